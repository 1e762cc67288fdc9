import PyProof.Rows.All
import Wide.All
import OpenK.AllK
import Wide.FinOn
import HandS.ForMost
import HandS.ForExc
import HandS.Flow
import HandS.TupAny
import HandS.Deep
import HandS.ExcCtx
import HandS.SetFor
import HandS.IsInst
import HandS.ExcIs
import HandS.SuiteRaise
import HandS.RaiseFrom
import KE.RegKIsAll
import KE.RegKTryMore
import KE.KDictWalk
import HandS.Conv
import PyProof.StrOps2
import HandS.TupMul
import HandS.NoneIn
import HandS.SortInts
import PyProof.Rows.SortKeyStr
import PyProof.Rows.SortStr
import KE.KDictSum
import KE.KDictList
import PySem.Challenge.RW_tidinghall_k32_whole_line
set_option Elab.async false
set_option linter.all false
set_option autoImplicit false
set_option maxRecDepth 100000
set_option maxHeartbeats 4000000
/-! A layer of values over the hand layer: data that never changes is a plain value (Dt), what changes stands in a store (Mo) by number. -/
namespace Pd
open PySem L2

inductive Dt where
  | non | bl (b : Bool) | int (i : Int) | str (x : Str) | tup (l : List Dt) | lst (l : List Dt) | lsk (l : List Dt) | obj (i : Nat) | exc (c : Nat)
inductive Mo where
  | lst (l : List Dt) | ins (c : Nat) (fs : List Dt) | dic (kvs : List (Key × Dt)) | dit (kvs : List (List Key × Dt)) | dicL (kvs : List (Key × Dt)) | ditL (kvs : List (List Key × Dt))
abbrev Sto := List Mo
inductive Out (α : Type) where
  | ok (a : α) (s : Sto) | exc (c : Nat) (s : Sto) | bad
/-- the classes by number: name, attributes in the order of their first store -/
abbrev Cn := Nat → Str × List Str
structure Wd where
  K : PySem.W.Frag
  mg : Str → Option Value
  J : Cn
abbrev Wd.cl (Γ : Wd) (c : Nat) (C : Addr) : Prop := Γ.mg (Γ.J c).1 = some (.ref C)
def ExH (C : Addr) (a : Addr) : HO := .ext fun h => ∃ (oe : Obj) (vs : Array Value), h.get? a = some oe ∧ Zc (.ref C) none oe ∧ oe.data = .fields vs
/-- texts as they may be here -/
def sok (x : Str) : Bool := PyData.strOk x && decide (x.length ≤ 1000000)
/-- keys as they may be here -/
def kOk : Key → Bool
  | .inl _ => true
  | .inr x => sok x
section
variable (Γ : Wd) (ρ : List Addr) (F : Hp)
mutual
def Den : Dt → V → Prop
  | .non, v => v = .non
  | .bl b, v => v = .bl b
  | .int i, v => v = .int i
  | .str x, v => v = .str x ∧ sok x = true
  | .tup l, v => l.length ≤ sizeLine ∧ ∃ a xs, v = .ref a ∧ F a = some (.tup xs) ∧ Dens l xs
  | .lst l, v => l.length ≤ sizeLine ∧ ∃ a xs, v = .ref a ∧ F a = some (.lst xs) ∧ Dens l xs
  | .lsk l, v => l.length ≤ sizeLine ∧ ∃ a xs, v = .ref a ∧ SqL Γ.K F a xs ∧ Dens l xs
  | .obj i, v => ∃ a, v = .ref a ∧ ρ[i]? = some a
  | .exc c, v => ∃ a C, v = .ref a ∧ Γ.cl c C ∧ F a = some (ExH C a)
def Dens : List Dt → List V → Prop
  | [], vs => vs = []
  | d :: ds, vs => ∃ v r, vs = v :: r ∧ Den d v ∧ Dens ds r
end
def DenK {κ : Type} : List (κ × Dt) → List (κ × V) → Prop
  | [], vs => vs = []
  | (f, d) :: ds, vs => ∃ v r, vs = (f, v) :: r ∧ Den Γ ρ F d v ∧ DenK ds r
def MoOk (H : Hp) (a : Addr) : Mo → Prop
  | .lst l => l.length ≤ sizeLine ∧ ∃ xs, H a = some (.lst xs) ∧ Dens Γ ρ F l xs
  | .ins c fs => ∃ C dx vs, Γ.cl c C ∧ H a = some (.ins C dx ((Γ.J c).2.zip vs)) ∧ Dens Γ ρ F fs vs ∧ fs.length ≤ (Γ.J c).2.length ∧ (Γ.J c).2.length < 1000
  | .dic kvs => (kvs.length ≤ sizeLine ∧ ∀ kv ∈ kvs, kOk kv.1 = true) ∧ ∃ vs, H a = some (.dK vs) ∧ DenK Γ ρ F kvs vs
  | .dit kvs => (kvs.length ≤ sizeLine ∧ ∀ kv ∈ kvs, kv.1.all kOk = true) ∧ ∃ vs, H a = some (.dT vs) ∧ DenK Γ ρ F kvs vs
  | .dicL kvs => (kvs.length ≤ sizeLine ∧ ∀ kv ∈ kvs, kOk kv.1 = true) ∧ ∃ od vs, (H a = some (.frz od (.dK vs)) ∧ F a = some (.frz od (.dK vs))) ∧ DenK Γ ρ F kvs vs
  | .ditL kvs => (kvs.length ≤ sizeLine ∧ ∀ kv ∈ kvs, kv.1.all kOk = true) ∧ ∃ od vs, (H a = some (.frz od (.dT vs)) ∧ F a = some (.frz od (.dT vs))) ∧ DenK Γ ρ F kvs vs
end
structure LD (ρ : List Addr) (F : Hp) (ρ' : List Addr) (F' : Hp) : Prop where
  pre : ∃ r, ρ' = ρ ++ r
  sub : ∀ a o, F a = some o → F' a = some o
theorem LD.refl {ρ : List Addr} {F : Hp} : LD ρ F ρ F := ⟨⟨[], by simp⟩, fun _ _ h => h⟩
theorem LD.trans {ρ ρ1 ρ2 : List Addr} {F F1 F2 : Hp} (a : LD ρ F ρ1 F1) (b : LD ρ1 F1 ρ2 F2) : LD ρ F ρ2 F2 := by
  obtain ⟨⟨r, e⟩, h⟩ := a
  obtain ⟨⟨r2, e2⟩, h2⟩ := b
  exact ⟨⟨r ++ r2, by rw [e2, e, List.append_assoc]⟩, fun a o q => h2 a o (h a o q)⟩
theorem LD.get {ρ ρ1 : List Addr} {F F1 : Hp} (a : LD ρ F ρ1 F1) {i : Nat} {x : Addr} (h : ρ[i]? = some x) : ρ1[i]? = some x := by
  obtain ⟨⟨r, e⟩, _⟩ := a
  rw [e, List.getElem?_append_left (List.getElem?_eq_some_iff.mp h).1]
  exact h
theorem rd_sub {F F1 : Hp} {a : Addr} {u : HO} (h : ∀ a o, F a = some o → F1 a = some o) (r : Rd F a u) : Rd F1 a u := by
  rcases r with r | ⟨o, r⟩
  · exact .inl (h _ _ r)
  · exact .inr ⟨o, h _ _ r⟩
theorem sqL_sub {K : PySem.W.Frag} {F F1 : Hp} {a : Addr} {xs : List V} (h : ∀ a o, F a = some o → F1 a = some o) (r : SqL K F a xs) : SqL K F1 a xs := by
  rcases r with r | r
  · exact .inl (rd_sub h r)
  · exact .inr r
theorem sqT_sub {K : PySem.W.Frag} {F F1 : Hp} {a : Addr} {xs : List V} (h : ∀ a o, F a = some o → F1 a = some o) (r : SqT K F a xs) : SqT K F1 a xs := by
  rcases r with r | r
  · exact .inl (rd_sub h r)
  · exact .inr r
section
variable {Γ : Wd} {ρ ρ1 : List Addr} {F F1 : Hp}
mutual
theorem Den.monoD (l : LD ρ F ρ1 F1) : ∀ (d : Dt) (v : V), Den Γ ρ F d v → Den Γ ρ1 F1 d v
  | .non, v, h => by simpa only [Den] using h
  | .bl b, v, h => by simpa only [Den] using h
  | .int i, v, h => by simpa only [Den] using h
  | .str x, v, h => by simpa only [Den] using h
  | .tup ds, v, h => by
    simp only [Den] at h ⊢
    obtain ⟨z, a, xs, e, q, r⟩ := h
    exact ⟨z, a, xs, e, l.sub _ _ q, Dens.monoD l ds xs r⟩
  | .lst ds, v, h => by
    simp only [Den] at h ⊢
    obtain ⟨z, a, xs, e, q, r⟩ := h
    exact ⟨z, a, xs, e, l.sub _ _ q, Dens.monoD l ds xs r⟩
  | .lsk ds, v, h => by
    simp only [Den] at h ⊢
    obtain ⟨z, a, xs, e, q, r⟩ := h
    exact ⟨z, a, xs, e, sqL_sub l.sub q, Dens.monoD l ds xs r⟩
  | .obj i, v, h => by
    simp only [Den] at h ⊢
    obtain ⟨a, e, q⟩ := h
    exact ⟨a, e, l.get q⟩
  | .exc c, v, h => by
    simp only [Den] at h ⊢
    obtain ⟨a, C, e, q, r⟩ := h
    exact ⟨a, C, e, q, l.sub _ _ r⟩
theorem Dens.monoD (l : LD ρ F ρ1 F1) : ∀ (ds : List Dt) (vs : List V), Dens Γ ρ F ds vs → Dens Γ ρ1 F1 ds vs
  | [], vs, h => by simpa only [Dens] using h
  | d :: ds, vs, h => by
    simp only [Dens] at h ⊢
    obtain ⟨v, r, e, q, t⟩ := h
    exact ⟨v, r, e, Den.monoD l d v q, Dens.monoD l ds r t⟩
end
theorem DenK.monoD {κ : Type} (l : LD ρ F ρ1 F1) : ∀ {ds : List (κ × Dt)} {vs : List (κ × V)}, DenK Γ ρ F ds vs → DenK Γ ρ1 F1 ds vs
  | [], vs, h => h
  | (f, d) :: ds, vs, h => by
    obtain ⟨v, r, e, q, t⟩ := h
    exact ⟨v, r, e, Den.monoD l d v q, DenK.monoD l t⟩
theorem MoOk.mono (l : LD ρ F ρ1 F1) {H H1 : Hp} {a : Addr} (e : H1 a = H a) : ∀ {mo : Mo}, MoOk Γ ρ F H a mo → MoOk Γ ρ1 F1 H1 a mo
  | .lst ds, ⟨z, xs, h, q⟩ => ⟨z, xs, by rw [e]; exact h, Dens.monoD l _ _ q⟩
  | .ins c fs, ⟨C, dx, vs, g, h, q, z⟩ => ⟨C, dx, vs, g, by rw [e]; exact h, Dens.monoD l _ _ q, z⟩
  | .dic kvs, ⟨z, vs, h, q⟩ => ⟨z, vs, by rw [e]; exact h, DenK.monoD l q⟩
  | .dit kvs, ⟨z, vs, h, q⟩ => ⟨z, vs, by rw [e]; exact h, DenK.monoD l q⟩
  | .dicL kvs, ⟨z, od, vs, h, q⟩ => ⟨z, od, vs, ⟨by rw [e]; exact h.1, l.sub _ _ h.2⟩, DenK.monoD l q⟩
  | .ditL kvs, ⟨z, od, vs, h, q⟩ => ⟨z, od, vs, ⟨by rw [e]; exact h.1, l.sub _ _ h.2⟩, DenK.monoD l q⟩
end
theorem MoOk.there {Γ : Wd} {ρ : List Addr} {F H : Hp} {a : Addr} : ∀ {mo : Mo}, MoOk Γ ρ F H a mo → ∃ o, H a = some o
  | .lst ds, ⟨_, xs, h, q⟩ => ⟨_, h⟩
  | .ins c fs, ⟨C, dx, vs, g, h, q⟩ => ⟨_, h⟩
  | .dic kvs, ⟨_, vs, h, q⟩ => ⟨_, h⟩
  | .dit kvs, ⟨_, vs, h, q⟩ => ⟨_, h⟩
  | .dicL kvs, ⟨_, od, vs, h, q⟩ => ⟨_, h.1⟩
  | .ditL kvs, ⟨_, od, vs, h, q⟩ => ⟨_, h.1⟩
structure G (Γ : Wd) (ρ : List Addr) (F : Hp) (s : Sto) (H : Hp) : Prop where
  sub : ∀ a o, F a = some o → H a = some o
  len : ρ.length = s.length
  nd : ρ.Nodup
  sep : ∀ a ∈ ρ, F a = none ∨ ∃ od u, F a = some (.frz od u)
  at_ : ∀ (i : Nat) (a : Addr) (mo : Mo), ρ[i]? = some a → s[i]? = some mo → MoOk Γ ρ F H a mo
section
variable {Γ : Wd} {ρ ρ1 : List Addr} {F F1 H : Hp} {s : Sto}
theorem G.ex (g : G Γ ρ F s H) {a : Addr} (h : a ∈ ρ) : ∃ o, H a = some o := by
  obtain ⟨i, hi, e⟩ := List.mem_iff_getElem.mp h
  have hs : i < s.length := by rw [← g.len]; exact hi
  exact (g.at_ i a s[i] (by rw [← e]; exact List.getElem?_eq_getElem hi) (List.getElem?_eq_getElem hs)).there
theorem G.new_ne (g : G Γ ρ F s H) {p : Addr} (hp : H p = none) {a : Addr} (h : a ∈ ρ) : a ≠ p := fun e => by
  obtain ⟨o, q⟩ := g.ex h
  rw [e, hp] at q
  cases q
theorem G.fnone (g : G Γ ρ F s H) {p : Addr} (hp : H p = none) : F p = none := by
  cases e : F p with
  | none => rfl
  | some o => rw [g.sub _ _ e] at hp; cases hp
theorem LD.upd {p : Addr} {o : HO} (h : F p = none) : LD ρ F ρ (upd F p o) := ⟨⟨[], by simp⟩, fun a u e => by rw [upd_ne (fun z => by rw [z, h] at e; cases e)]; exact e⟩
theorem LD.push {p : Addr} : LD ρ F (ρ ++ [p]) F := ⟨⟨[p], rfl⟩, fun _ _ e => e⟩
/-- a new object that never changes -/
theorem G.frz (g : G Γ ρ F s H) {p : Addr} (o : HO) (hp : H p = none) : G Γ ρ (upd F p o) s (upd H p o) where
  sub := fun a u e => by
    by_cases h : a = p
    · subst h; rw [upd_same] at e ⊢; exact e
    · rw [upd_ne h] at e ⊢; exact g.sub _ _ e
  len := g.len
  nd := g.nd
  sep := fun a h => by rw [upd_ne (g.new_ne hp h)]; exact g.sep a h
  at_ := fun i a mo h1 h2 => (g.at_ i a mo h1 h2).mono (LD.upd (g.fnone hp)) (upd_ne (g.new_ne hp (List.mem_of_getElem? h1)))
/-- a new object that is forgotten at once -/
theorem G.skip (g : G Γ ρ F s H) {p : Addr} (o : HO) (hp : H p = none) : G Γ ρ F s (upd H p o) where
  sub := fun a u e => by
    rw [upd_ne (fun z => by rw [z, g.fnone hp] at e; cases e)]; exact g.sub _ _ e
  len := g.len
  nd := g.nd
  sep := g.sep
  at_ := fun i a mo h1 h2 => (g.at_ i a mo h1 h2).mono LD.refl (upd_ne (g.new_ne hp (List.mem_of_getElem? h1)))
/-- a new object of the store -/
theorem G.new (g : G Γ ρ F s H) {p : Addr} {o : HO} {mo : Mo} (hp : H p = none) (hm : MoOk Γ (ρ ++ [p]) F (upd H p o) p mo) : G Γ (ρ ++ [p]) F (s ++ [mo]) (upd H p o) where
  sub := fun a u e => by
    rw [upd_ne (fun z => by rw [z, g.fnone hp] at e; cases e)]; exact g.sub _ _ e
  len := by simp [g.len]
  nd := by
    refine List.nodup_append.mpr ⟨g.nd, by simp, fun a ha b hb => ?_⟩
    rw [List.mem_singleton] at hb
    rw [hb]
    exact g.new_ne hp ha
  sep := fun a h => by
    rcases List.mem_append.mp h with h | h
    · exact g.sep a h
    · rw [List.mem_singleton] at h; rw [h]; exact .inl (g.fnone hp)
  at_ := fun i a m h1 h2 => by
    by_cases hi : i < ρ.length
    · rw [List.getElem?_append_left hi] at h1
      rw [List.getElem?_append_left (by rw [← g.len]; exact hi)] at h2
      exact (g.at_ i a m h1 h2).mono LD.push (upd_ne (g.new_ne hp (List.mem_of_getElem? h1)))
    · rw [List.getElem?_append_right (by omega)] at h1
      rw [List.getElem?_append_right (by rw [← g.len]; omega)] at h2
      have e0 : i - ρ.length = 0 := by
        have := (List.getElem?_eq_some_iff.mp h1).1
        simp at this
        omega
      rw [e0] at h1
      rw [← g.len, e0] at h2
      have e1 : p = a := Option.some.inj h1
      have e2 : mo = m := Option.some.inj h2
      subst e1; subst e2
      exact hm
/-- an object of the store is written -/
theorem G.free (g : G Γ ρ F s H) {a : Addr} (h : a ∈ ρ) (nf : ∀ od u, H a ≠ some (.frz od u)) : F a = none := by
  rcases g.sep a h with h | ⟨od, u, h⟩
  · exact h
  · exact absurd (g.sub _ _ h) (nf od u)
theorem G.put (g : G Γ ρ F s H) {i : Nat} {a : Addr} {o : HO} {mo : Mo} (hi : ρ[i]? = some a) (nf : ∀ od u, H a ≠ some (.frz od u)) (hm : MoOk Γ ρ F (upd H a o) a mo) : G Γ ρ F (s.set i mo) (upd H a o) where
  sub := fun b u e => by
    rw [upd_ne (fun z => by rw [z, g.free (List.mem_of_getElem? hi) nf] at e; cases e)]; exact g.sub _ _ e
  len := by rw [List.length_set]; exact g.len
  nd := g.nd
  sep := g.sep
  at_ := fun j b m h1 h2 => by
    by_cases hj : i = j
    · subst hj
      have e : a = b := Option.some.inj (hi.symm.trans h1)
      subst e
      have hl : i < s.length := by rw [← g.len]; exact (List.getElem?_eq_some_iff.mp hi).1
      rw [List.getElem?_set_self hl] at h2
      cases h2
      exact hm
    · rw [List.getElem?_set_ne hj] at h2
      refine (g.at_ j b m h1 h2).mono LD.refl (upd_ne fun z => hj ?_)
      subst z
      exact nd_ix g.nd hi h1
end
/-- what may have come to pass: more is known, what was not the store's stands as it stood -/
structure LE (ρ : List Addr) (F H : Hp) (ρ' : List Addr) (F' H' : Hp) : Prop where
  ld : LD ρ F ρ' F'
  fr : ∀ a, a ∈ ρ' → a ∈ ρ ∨ H a = none
  ff : ∀ a o, F' a = some o → (∃ u, F a = some u) ∨ H a = none ∨ (a ∉ ρ ∧ ∃ xs, H a = some (.tup xs))
  keep : ∀ a o, H a = some o → a ∉ ρ → H' a = some o
  there : ∀ a o, H a = some o → ∃ u, H' a = some u
theorem LE.refl {ρ : List Addr} {F H : Hp} : LE ρ F H ρ F H := ⟨LD.refl, fun _ h => .inl h, fun _ o h => .inl ⟨o, h⟩, fun _ _ h _ => h, fun _ o h => ⟨o, h⟩⟩
theorem LE.gone {ρ ρ1 : List Addr} {F H F1 H1 : Hp} (l : LE ρ F H ρ1 F1 H1) {a : Addr} (h : H1 a = none) : H a = none := by
  cases e : H a with
  | none => rfl
  | some o =>
    obtain ⟨u, q⟩ := l.there a o e
    rw [h] at q
    cases q
theorem LE.sub {ρ ρ1 : List Addr} {F H F1 H1 : Hp} (l : LE ρ F H ρ1 F1 H1) {a : Addr} (h : a ∈ ρ) : a ∈ ρ1 := by
  obtain ⟨r, e⟩ := l.ld.pre
  rw [e]
  exact List.mem_append_left _ h
theorem LE.trans {ρ ρ1 ρ2 : List Addr} {F F1 F2 H H1 H2 : Hp} (a : LE ρ F H ρ1 F1 H1) (b : LE ρ1 F1 H1 ρ2 F2 H2) : LE ρ F H ρ2 F2 H2 where
  ld := a.ld.trans b.ld
  fr := fun x h => by
    rcases b.fr x h with h | h
    · exact a.fr x h
    · exact .inr (a.gone h)
  ff := fun x o h => by
    rcases b.ff x o h with ⟨u, h⟩ | h | ⟨n, xs, h⟩
    · exact a.ff x u h
    · exact .inr (.inl (a.gone h))
    · have n0 : x ∉ ρ := fun z => n (a.sub z)
      cases e : H x with
      | none => exact .inr (.inl rfl)
      | some u =>
        have := a.keep x u e n0
        rw [h] at this
        cases this
        exact .inr (.inr ⟨n0, xs, rfl⟩)
  keep := fun x o h n => b.keep x o (a.keep x o h n) fun z => by
    rcases a.fr x z with z | z
    · exact n z
    · rw [h] at z; cases z
  there := fun x o h => by
    obtain ⟨u, q⟩ := a.there x o h
    exact b.there x u q
theorem Den.mono {Γ : Wd} {ρ ρ1 : List Addr} {F F1 H H1 : Hp} (l : LE ρ F H ρ1 F1 H1) (d : Dt) (v : V) (h : Den Γ ρ F d v) : Den Γ ρ1 F1 d v := Den.monoD l.ld d v h
theorem Dens.mono {Γ : Wd} {ρ ρ1 : List Addr} {F F1 H H1 : Hp} (l : LE ρ F H ρ1 F1 H1) (d : List Dt) (v : List V) (h : Dens Γ ρ F d v) : Dens Γ ρ1 F1 d v := Dens.monoD l.ld d v h
section
variable {Γ : Wd} {ρ : List Addr} {F H : Hp} {s : Sto}
theorem upd_keep {a p : Addr} {o u : HO} (hp : H p = none) (h : H a = some o) : upd H p u a = some o := by rw [upd_ne (ne_of_none h hp)]; exact h
theorem LE.frz (g : G Γ ρ F s H) {p : Addr} {o : HO} (hp : H p = none) : LE ρ F H ρ (upd F p o) (upd H p o) where
  ld := LD.upd (g.fnone hp)
  fr := fun _ h => .inl h
  ff := fun a u h => by
    by_cases e : a = p
    · subst e; exact .inr (.inl hp)
    · rw [upd_ne e] at h; exact .inl ⟨u, h⟩
  keep := fun a u h _ => upd_keep hp h
  there := fun a u h => ⟨u, upd_keep hp h⟩
theorem LE.new {p : Addr} {o : HO} (hp : H p = none) : LE ρ F H (ρ ++ [p]) F (upd H p o) where
  ld := LD.push
  fr := fun a h => by
    rcases List.mem_append.mp h with h | h
    · exact .inl h
    · rw [List.mem_singleton] at h; rw [h]; exact .inr hp
  ff := fun a u h => .inl ⟨u, h⟩
  keep := fun a u h _ => upd_keep hp h
  there := fun a u h => ⟨u, upd_keep hp h⟩
theorem LE.skip {p : Addr} {o : HO} (hp : H p = none) : LE ρ F H ρ F (upd H p o) where
  ld := LD.refl
  fr := fun _ h => .inl h
  ff := fun a u h => .inl ⟨u, h⟩
  keep := fun a u h _ => upd_keep hp h
  there := fun a u h => ⟨u, upd_keep hp h⟩
theorem LE.put {a : Addr} {o : HO} (ha : a ∈ ρ) : LE ρ F H ρ F (upd H a o) where
  ld := LD.refl
  fr := fun _ h => .inl h
  ff := fun a u h => .inl ⟨u, h⟩
  keep := fun b u h n => by rw [upd_ne (fun e => n (by rw [e]; exact ha))]; exact h
  there := fun b u h => by
    by_cases e : b = a
    · subst e; exact ⟨o, upd_same⟩
    · exact ⟨u, by rw [upd_ne e]; exact h⟩
/-- an object that is neither the store's nor known is written -/
theorem G.other (g : G Γ ρ F s H) {p : Addr} (o : HO) (hp : p ∉ ρ) (hf : F p = none) : G Γ ρ F s (upd H p o) where
  sub := fun a u e => by
    rw [upd_ne (fun z => by rw [z, hf] at e; cases e)]; exact g.sub _ _ e
  len := g.len
  nd := g.nd
  sep := g.sep
  at_ := fun i a mo h1 h2 => (g.at_ i a mo h1 h2).mono LD.refl (upd_ne fun z => hp (by rw [← z]; exact List.mem_of_getElem? h1))
end
/-! ### meanings -/
abbrev En := List (Option Dt)
abbrev Ex := En → Sto → Out Dt
abbrev Tx := En → Sto → Out Bool
inductive Fl where
  | nx (e : En) | rt (d : Dt) | bk (e : En) | ct (e : En)
inductive Res where
  | fl (f : Fl) (s : Sto) | exc (c : Nat) (e : En) (s : Sto) | bad
abbrev Sx := En → Sto → Res
structure Sl (Γ : Wd) (ρ : List Addr) (F : Hp) (env : En) (σ : St) : Prop where
  len : env.length = σ.length
  at_ : ∀ (i : Nat) (d : Dt), env[i]? = some (some d) → ∃ v : V, σ[i]? = some (some v) ∧ Den Γ ρ F d v
theorem Sl.mono {Γ : Wd} {ρ ρ1 : List Addr} {F F1 H H1 : Hp} {env : En} {σ : St} (h : Sl Γ ρ F env σ) (l : LE ρ F H ρ1 F1 H1) : Sl Γ ρ1 F1 env σ :=
  ⟨h.len, fun i d e => by obtain ⟨v, q, r⟩ := h.at_ i d e; exact ⟨v, q, Den.mono l d v r⟩⟩
theorem Sl.set {Γ : Wd} {ρ : List Addr} {F : Hp} {env : En} {σ : St} (h : Sl Γ ρ F env σ) {d : Dt} {v : V} (r : Den Γ ρ F d v) (i : Nat) : Sl Γ ρ F (env.set i (some d)) (σ.set i (some v)) := by
  refine ⟨by rw [List.length_set, List.length_set]; exact h.len, fun j e q => ?_⟩
  by_cases hj : i = j
  · subst hj
    have hl : i < env.length := by
      have := (List.getElem?_eq_some_iff.mp q).1
      rw [List.length_set] at this
      exact this
    rw [List.getElem?_set_self hl] at q
    have e1 : d = e := by injection q with q; injection q
    subst e1
    exact ⟨v, List.getElem?_set_self (by rw [← h.len]; exact hl), r⟩
  · rw [List.getElem?_set_ne hj] at q
    rw [List.getElem?_set_ne hj]
    exact h.at_ j e q
theorem Sl.unset {Γ : Wd} {ρ : List Addr} {F : Hp} {env : En} {σ : St} (h : Sl Γ ρ F env σ) (i : Nat) : Sl Γ ρ F (env.set i none) (σ.set i none) := by
  refine ⟨by rw [List.length_set, List.length_set]; exact h.len, fun j e q => ?_⟩
  by_cases hj : i = j
  · subst hj
    have hl : i < env.length := by
      have := (List.getElem?_eq_some_iff.mp q).1
      rw [List.length_set] at this
      exact this
    rw [List.getElem?_set_self hl] at q
    injection q with q
    cases q
  · rw [List.getElem?_set_ne hj] at q
    rw [List.getElem?_set_ne hj]
    exact h.at_ j e q
/-- what is to be shown behind an outcome -/
def Po {α β : Type} (Γ : Wd) (Rl : List Addr → Hp → α → β → Prop) (ρ : List Addr) (F H : Hp) (Q : β → Hp → Prop) (E : Value → Hp → Prop) : Out α → Prop
  | .ok d s => ∀ ρ' F' H' v, LE ρ F H ρ' F' H' → G Γ ρ' F' s H' → Rl ρ' F' d v → Q v H'
  | .exc c s => ∀ ρ' F' H' C, LE ρ F H ρ' F' H' → G Γ ρ' F' s H' → Γ.cl c C → E (.ref C) H'
  | .bad => False
abbrev EPo (Γ : Wd) := Po Γ (Den Γ)
abbrev APo (Γ : Wd) := Po Γ (Dens Γ)
abbrev BPo (Γ : Wd) := Po Γ (fun _ _ (a : Bool) (b : Bool) => a = b)
theorem Po.mono {α β : Type} {Γ : Wd} {Rl : List Addr → Hp → α → β → Prop} {ρ ρ1 : List Addr} {F F1 H H1 : Hp} {Q Q' : β → Hp → Prop} {E E' : Value → Hp → Prop} (l : LE ρ F H ρ1 F1 H1) (hq : ∀ v H, Q v H → Q' v H) (he : ∀ v H, E v H → E' v H) :
    ∀ {o : Out α}, Po Γ Rl ρ F H Q E o → Po Γ Rl ρ1 F1 H1 Q' E' o
  | .ok d s, h => fun ρ' F' H' v l' g r => hq _ _ (h ρ' F' H' v (l.trans l') g r)
  | .exc c s, h => fun ρ' F' H' C l' g r => he _ _ (h ρ' F' H' C (l.trans l') g r)
  | .bad, h => h
/-- one computation behind another -/
def bnd {α β : Type} (m : Sto → Out α) (k : α → Sto → Out β) (s : Sto) : Out β := match m s with
  | .ok a s' => k a s'
  | .exc c s' => .exc c s'
  | .bad => .bad
@[simp] theorem bnd_ok {α β : Type} {m : Sto → Out α} {k : α → Sto → Out β} {s s' : Sto} {a : α} (h : m s = .ok a s') : bnd m k s = k a s' := by unfold bnd; rw [h]
theorem Po.bind {α β γ δ : Type} {Γ : Wd} {R1 : List Addr → Hp → α → β → Prop} {R2 : List Addr → Hp → γ → δ → Prop} {ρ : List Addr} {F H : Hp} {Q : δ → Hp → Prop} {Q1 : β → Hp → Prop} {E : Value → Hp → Prop} {m : Sto → Out α} {k : α → Sto → Out γ} {s : Sto}
    (h : Po Γ R2 ρ F H Q E (bnd m k s)) (hk : ∀ a s' ρ' F' H' v, m s = .ok a s' → LE ρ F H ρ' F' H' → G Γ ρ' F' s' H' → R1 ρ' F' a v → Po Γ R2 ρ' F' H' Q E (k a s') → Q1 v H') : Po Γ R1 ρ F H Q1 E (m s) := by
  unfold bnd at h
  cases e : m s with
  | ok a s' =>
    rw [e] at h
    exact fun ρ' F' H' v l g r => hk a s' ρ' F' H' v e l g r (h.mono l (fun _ _ q => q) fun _ _ q => q)
  | exc c s' => rw [e] at h; exact h
  | bad => rw [e] at h; exact h
/-- the readings that a meaning gives -/
def tE (Γ : Wd) (W : WX) (f : Ex) : TE := fun σ H Q => ∃ env ρ F s, G Γ ρ F s H ∧ Sl Γ ρ F env σ ∧ EPo Γ ρ F H Q (fun c H' => W c none σ H') (f env s)
def tT (Γ : Wd) (W : WX) (f : Tx) : TT := fun σ H Q => ∃ env ρ F s, G Γ ρ F s H ∧ Sl Γ ρ F env σ ∧ BPo Γ ρ F H Q (fun c H' => W c none σ H') (f env s)
/-- several, from the left -/
def evs : List Ex → En → Sto → Out (List Dt)
  | [], _, s => .ok [] s
  | f :: fs, env, s => bnd (f env) (fun d => bnd (evs fs env) fun ds s => .ok (d :: ds) s) s
def tA (Γ : Wd) (W : WX) (f : List Ex) : TA := fun σ H Q => ∃ env ρ F s, G Γ ρ F s H ∧ Sl Γ ρ F env σ ∧ APo Γ ρ F H Q (fun c H' => W c none σ H') (evs f env s)
def FPo (Γ : Wd) (W : WX) (ρ : List Addr) (F H : Hp) (D : Ends) : Res → Prop
  | .fl (.nx e) s => ∀ ρ' F' H' σ, LE ρ F H ρ' F' H' → G Γ ρ' F' s H' → Sl Γ ρ' F' e σ → D.nx σ H'
  | .fl (.rt d) s => ∀ ρ' F' H' v, LE ρ F H ρ' F' H' → G Γ ρ' F' s H' → Den Γ ρ' F' d v → D.rt v H'
  | .fl (.bk e) s => ∀ ρ' F' H' σ, LE ρ F H ρ' F' H' → G Γ ρ' F' s H' → Sl Γ ρ' F' e σ → D.bk σ H'
  | .fl (.ct e) s => ∀ ρ' F' H' σ, LE ρ F H ρ' F' H' → G Γ ρ' F' s H' → Sl Γ ρ' F' e σ → D.ct σ H'
  | .exc c e s => ∀ ρ' F' H' σ C, LE ρ F H ρ' F' H' → G Γ ρ' F' s H' → Sl Γ ρ' F' e σ → Γ.cl c C → W (.ref C) none σ H'
  | .bad => False
def tS (Γ : Wd) (W : WX) (f : Sx) : TS := fun D σ H => ∃ env ρ F s, G Γ ρ F s H ∧ Sl Γ ρ F env σ ∧ FPo Γ W ρ F H D (f env s)
theorem FPo.le {Γ : Wd} {W : WX} {ρ ρ1 : List Addr} {F F1 H H1 : Hp} {D : Ends} (l : LE ρ F H ρ1 F1 H1) : ∀ {r : Res}, FPo Γ W ρ F H D r → FPo Γ W ρ1 F1 H1 D r
  | .fl (.nx e) s, h => fun ρ' F' H' σ l' g r => h ρ' F' H' σ (l.trans l') g r
  | .fl (.rt d) s, h => fun ρ' F' H' σ l' g r => h ρ' F' H' σ (l.trans l') g r
  | .fl (.bk e) s, h => fun ρ' F' H' σ l' g r => h ρ' F' H' σ (l.trans l') g r
  | .fl (.ct e) s, h => fun ρ' F' H' σ l' g r => h ρ' F' H' σ (l.trans l') g r
  | .exc c e s, h => fun ρ' F' H' σ C l' g r => h ρ' F' H' σ C (l.trans l') g r
  | .bad, h => h
theorem PE.imp {X : Cx} {e : Expr} {t t' : TE} (h : PE X e t) (k : ∀ σ H Q, t' σ H Q → t σ H Q) : PE X e t' := ⟨fun pins s σ H Q I q => h.run pins s σ H Q I (k σ H Q q)⟩
theorem PT.imp {X : Cx} {e : Expr} {t t' : TT} (h : PT X e t) (k : ∀ σ H Q, t' σ H Q → t σ H Q) : PT X e t' := ⟨fun pins s σ H Q I q => h.run pins s σ H Q I (k σ H Q q)⟩
theorem PW.imp {X : Cx} {e : Expr} {t t' : TT} (h : PW X e t) (k : ∀ σ H Q, t' σ H Q → t σ H Q) : PW X e t' := ⟨fun wh pins s σ H Q I q => h.run wh pins s σ H Q I (k σ H Q q)⟩
theorem PA.imp {X : Cx} {e : List Expr} {t t' : TA} (h : PA X e t) (k : ∀ σ H Q, t' σ H Q → t σ H Q) : PA X e t' := ⟨fun pos pins s σ H Q I q => h.run pos pins s σ H Q I (k σ H Q q)⟩
theorem PS.imp {X : Cx} {e : Stmt} {t t' : TS} (h : PS X e t) (k : ∀ D σ H, t' D σ H → t D σ H) : PS X e t' := ⟨fun pins s σ H D I q => h.run pins s σ H D I (k D σ H q)⟩
theorem PSs.imp {X : Cx} {e : List Stmt} {t t' : TS} (h : PSs X e t) (k : ∀ D σ H, t' D σ H → t D σ H) : PSs X e t' := ⟨fun pins s σ H D I q => h.run pins s σ H D I (k D σ H q)⟩
abbrev wd (J : Cn) (X : Cx) : Wd := ⟨X.K, X.mg, J⟩
abbrev ES (J : Cn) (X : Cx) (W : WX) (e : Expr) (f : Ex) : Prop := PE X e (tE (wd J X) W f)
abbrev TSo (J : Cn) (X : Cx) (W : WX) (e : Expr) (f : Tx) : Prop := PT X e (tT (wd J X) W f)
abbrev WSo (J : Cn) (X : Cx) (W : WX) (e : Expr) (f : Tx) : Prop := PW X e (tT (wd J X) W f)
abbrev ASo (J : Cn) (X : Cx) (W : WX) (e : List Expr) (f : List Ex) : Prop := PA X e (tA (wd J X) W f)
abbrev SS (J : Cn) (X : Cx) (W : WX) (e : Stmt) (f : Sx) : Prop := PS X e (tS (wd J X) W f)
abbrev SSs (J : Cn) (X : Cx) (W : WX) (e : List Stmt) (f : Sx) : Prop := PSs X e (tS (wd J X) W f)
end Pd
namespace Pd
open PySem L2
/-! ### reading data -/
def asL (s : Sto) : Dt → Option (List Dt)
  | .lst l => some l
  | .lsk l => some l
  | .obj i => match s[i]? with
    | some (.lst l) => some l
    | _ => none
  | _ => none
def asT : Dt → Option (List Dt)
  | .tup l => some l
  | _ => none
def asQ (s : Sto) (d : Dt) : Option (List Dt) := match d with
  | .tup l => some l
  | _ => asL s d
section
variable {Γ : Wd} {ρ : List Addr} {F H : Hp} {s : Sto}
theorem G.sqL (g : G Γ ρ F s H) {d : Dt} {v : V} {l : List Dt} (r : Den Γ ρ F d v) (h : asL s d = some l) : ∃ a xs, v = .ref a ∧ SqL Γ.K H a xs ∧ Dens Γ ρ F l xs ∧ l.length ≤ sizeLine := by
  cases d with
  | lst l' =>
    simp only [Den] at r
    simp only [asL, Option.some.injEq] at h
    subst h
    obtain ⟨z, a, xs, e, q, t⟩ := r
    exact ⟨a, xs, e, SqL.of (g.sub _ _ q), t, z⟩
  | lsk l' =>
    simp only [Den] at r
    simp only [asL, Option.some.injEq] at h
    subst h
    obtain ⟨z, a, xs, e, q, t⟩ := r
    exact ⟨a, xs, e, sqL_sub g.sub q, t, z⟩
  | obj i =>
    simp only [Den] at r
    obtain ⟨a, e, q⟩ := r
    simp only [asL] at h
    split at h
    · rename_i l' hs
      cases h
      obtain ⟨z, xs, ha, t⟩ := g.at_ i a _ q hs
      exact ⟨a, xs, e, SqL.of ha, t, z⟩
    · cases h
  | _ => simp [asL] at h
theorem G.sqT (g : G Γ ρ F s H) {d : Dt} {v : V} {l : List Dt} (r : Den Γ ρ F d v) (h : asT d = some l) : ∃ a xs, v = .ref a ∧ SqT Γ.K H a xs ∧ Dens Γ ρ F l xs ∧ l.length ≤ sizeLine := by
  cases d with
  | tup l' =>
    simp only [Den] at r
    simp only [asT, Option.some.injEq] at h
    subst h
    obtain ⟨z, a, xs, e, q, t⟩ := r
    exact ⟨a, xs, e, SqT.of (g.sub _ _ q), t, z⟩
  | _ => simp [asT] at h
theorem G.sqQ (g : G Γ ρ F s H) {d : Dt} {v : V} {l : List Dt} (r : Den Γ ρ F d v) (h : asQ s d = some l) : ∃ a xs, v = .ref a ∧ (SqL Γ.K H a xs ∨ SqT Γ.K H a xs) ∧ Dens Γ ρ F l xs ∧ l.length ≤ sizeLine := by
  cases d with
  | tup l' =>
    obtain ⟨a, xs, e, q, t⟩ := g.sqT r (l := l) (by simpa [asQ, asT] using h)
    exact ⟨a, xs, e, .inr q, t⟩
  | _ =>
    obtain ⟨a, xs, e, q, t⟩ := g.sqL r (l := l) (by simpa [asQ] using h)
    exact ⟨a, xs, e, .inl q, t⟩
theorem Dens.length : ∀ {ds : List Dt} {vs : List V}, Dens Γ ρ F ds vs → ds.length = vs.length
  | [], vs, h => by simp only [Dens] at h; rw [h]; rfl
  | d :: ds, vs, h => by
    simp only [Dens] at h
    obtain ⟨v, r, e, q, t⟩ := h
    rw [e, List.length_cons, List.length_cons, Dens.length t]
theorem Dens.get : ∀ {ds : List Dt} {vs : List V} {i : Nat} {d : Dt}, Dens Γ ρ F ds vs → ds[i]? = some d → ∃ v, vs[i]? = some v ∧ Den Γ ρ F d v
  | [], vs, i, d, h, e => by simp at e
  | d' :: ds, vs, i, d, h, e => by
    simp only [Dens] at h
    obtain ⟨v, r, e', q, t⟩ := h
    subst e'
    cases i with
    | zero => simp at e; subst e; exact ⟨v, rfl, q⟩
    | succ i =>
      obtain ⟨u, hu, q2⟩ := Dens.get (i := i) (d := d) t (by simpa using e)
      exact ⟨u, by simpa using hu, q2⟩
theorem Dens.back : ∀ {ds : List Dt} {vs : List V} {i : Nat} {v : V}, Dens Γ ρ F ds vs → vs[i]? = some v → ∃ d, ds[i]? = some d ∧ Den Γ ρ F d v
  | [], vs, i, d, h, e => by simp only [Dens] at h; subst h; simp at e
  | d' :: ds, vs, i, d, h, e => by
    simp only [Dens] at h
    obtain ⟨v, r, e', q, t⟩ := h
    subst e'
    cases i with
    | zero => simp at e; subst e; exact ⟨d', rfl, q⟩
    | succ i =>
      obtain ⟨u, hu, q2⟩ := Dens.back (i := i) (v := d) t (by simpa using e)
      exact ⟨u, by simpa using hu, q2⟩
theorem Dens.append : ∀ {ds es : List Dt} {vs us : List V}, Dens Γ ρ F ds vs → Dens Γ ρ F es us → Dens Γ ρ F (ds ++ es) (vs ++ us)
  | [], es, vs, us, h, k => by simp only [Dens] at h; subst h; exact k
  | d :: ds, es, vs, us, h, k => by
    simp only [Dens] at h
    obtain ⟨v, r, e, q, t⟩ := h
    subst e
    show Dens Γ ρ F (d :: (ds ++ es)) (v :: (r ++ us))
    simp only [Dens]
    exact ⟨v, _, rfl, q, Dens.append t k⟩
theorem Dens.one {d : Dt} {v : V} (h : Den Γ ρ F d v) : Dens Γ ρ F [d] [v] := by
  simp only [Dens]
  exact ⟨v, [], rfl, h, rfl⟩
theorem Dens.drop : ∀ {ds : List Dt} {vs : List V} (n : Nat), Dens Γ ρ F ds vs → Dens Γ ρ F (ds.drop n) (vs.drop n)
  | [], vs, n, h => by simp only [Dens] at h; subst h; simp [Dens]
  | d :: ds, vs, 0, h => h
  | d :: ds, vs, n + 1, h => by
    simp only [Dens] at h
    obtain ⟨v, r, e, q, t⟩ := h
    subst e
    exact Dens.drop n t
theorem Dens.take : ∀ {ds : List Dt} {vs : List V} (n : Nat), Dens Γ ρ F ds vs → Dens Γ ρ F (ds.take n) (vs.take n)
  | [], vs, n, h => by simp only [Dens] at h; subst h; simp [Dens]
  | d :: ds, vs, 0, h => by simp [Dens]
  | d :: ds, vs, n + 1, h => by
    simp only [Dens] at h
    obtain ⟨v, r, e, q, t⟩ := h
    subst e
    show Dens Γ ρ F (d :: ds.take n) (v :: r.take n)
    simp only [Dens]
    exact ⟨v, _, rfl, q, Dens.take n t⟩
theorem Dens.set {d : Dt} {v : V} (hd : Den Γ ρ F d v) : ∀ {ds : List Dt} {vs : List V} (n : Nat), Dens Γ ρ F ds vs → Dens Γ ρ F (ds.set n d) (vs.set n v)
  | [], vs, n, h => by simp only [Dens] at h; subst h; simp [Dens]
  | d' :: ds, vs, 0, h => by
    simp only [Dens] at h
    obtain ⟨v', r, e, q, t⟩ := h
    subst e
    show Dens Γ ρ F (d :: ds) (v :: r)
    simp only [Dens]
    exact ⟨v, _, rfl, hd, t⟩
  | d' :: ds, vs, n + 1, h => by
    simp only [Dens] at h
    obtain ⟨v', r, e, q, t⟩ := h
    subst e
    show Dens Γ ρ F (d' :: ds.set n d) (v' :: r.set n v)
    simp only [Dens]
    exact ⟨v', _, rfl, q, Dens.set hd n t⟩
theorem Dens.eraseIdx : ∀ {ds : List Dt} {vs : List V} (n : Nat), Dens Γ ρ F ds vs → Dens Γ ρ F (ds.eraseIdx n) (vs.eraseIdx n)
  | [], vs, n, h => by simp only [Dens] at h; subst h; simp [Dens]
  | d' :: ds, vs, 0, h => by
    simp only [Dens] at h
    obtain ⟨v', r, e, q, t⟩ := h
    subst e
    exact t
  | d' :: ds, vs, n + 1, h => by
    simp only [Dens] at h
    obtain ⟨v', r, e, q, t⟩ := h
    subst e
    show Dens Γ ρ F (d' :: ds.eraseIdx n) (v' :: r.eraseIdx n)
    simp only [Dens]
    exact ⟨v', _, rfl, q, Dens.eraseIdx n t⟩
end
/-! ### expressions -/
section
variable {J : Cn} {X : Cx} {W : WX} {a b c e : Expr} {es : List Expr} {fa fb fc : Ex} {pos : Pos}
def eVar (i : Nat) : Ex := fun env s => match env[i]? with
  | some (some d) => .ok d s
  | _ => .bad
theorem es_var {i : Nat} (h : PE X e (tVar i)) : ES J X W e (eVar i) := by
  refine PE.imp h fun σ H Q ⟨env, ρ, F, s, g, l, k⟩ => ?_
  unfold eVar at k
  split at k
  · rename_i d hd
    obtain ⟨v, q, r⟩ := l.at_ i d hd
    exact ⟨v, q, k ρ F H v LE.refl g r⟩
  · exact k.elim
def eC (d : Dt) : Ex := fun _ s => .ok d s
theorem es_c {d : Dt} {v : V} (h : PE X e (tC v)) (hd : ∀ ρ F, Den (wd J X) ρ F d v) : ES J X W e (eC d) :=
  PE.imp h fun σ H Q ⟨env, ρ, F, s, g, l, k⟩ => k ρ F H v LE.refl g (hd ρ F)
theorem es_int {i : Int} {j} : ES J X W (.Constant (.int i) j pos) (eC (.int i)) := es_c pe_int fun _ _ => by simp only [Den]
theorem es_bl {i : Bool} {j} : ES J X W (.Constant (.bool i) j pos) (eC (.bl i)) := es_c pe_bl fun _ _ => by simp only [Den]
theorem es_non {j} : ES J X W (.Constant .none j pos) (eC .non) := es_c pe_non fun _ _ => by simp only [Den]
theorem es_str {x : Str} {j} (h : sok x = true := by decide +kernel) : ES J X W (.Constant (.str x) j pos) (eC (.str x)) := es_c pe_str fun _ _ => by simp only [Den]; exact ⟨trivial, h⟩
theorem es_gint {x : Str} {i : Int} {t : Tok} (hg : Gl X x) (hm : X.mg x = some (.int i t)) (hd : (x == ("__debug__" : Str)) = false := by decide) : ES J X W (.Name x pos) (eC (.int i)) := es_c (v := .int i) (pe_glob hg hm ⟨t, rfl⟩ hd) fun _ _ => by simp only [Den]
theorem es_gstr {x z : Str} {t : Tok} (hg : Gl X x) (hm : X.mg x = some (.str z t)) (hz : sok z = true := by decide +kernel) (hd : (x == ("__debug__" : Str)) = false := by decide) : ES J X W (.Name x pos) (eC (.str z)) := es_c (v := .str z) (pe_glob hg hm ⟨t, rfl⟩ hd) fun _ _ => by simp only [Den]; exact ⟨trivial, hz⟩
/-- an operation of two places -/
def eOp (op : Dt → Dt → Sto → Out Dt) (fa fb : Ex) : Ex := fun env => bnd (fa env) fun x => bnd (fb env) fun y => op x y
def OpS (Γ : Wd) (r : R2) (op : Dt → Dt → Sto → Out Dt) : Prop := ∀ ρ F s H x y dx dy Q E, G Γ ρ F s H → Den Γ ρ F dx x → Den Γ ρ F dy y → EPo Γ ρ F H Q E (op dx dy s) → r x y H Q
theorem tE_op {Γ : Wd} {r : R2} {op : Dt → Dt → Sto → Out Dt} (ho : OpS Γ r op) {σ : St} {H : Hp} {Q : VK} (h : tE Γ W (eOp op fa fb) σ H Q) : tOp r (tE Γ W fa) (tE Γ W fb) σ H Q := by
  obtain ⟨env, ρ, F, s, g, l, k⟩ := h
  refine ⟨env, ρ, F, s, g, l, Po.bind k fun x s1 ρ1 F1 H1 v e1 l1 g1 r1 k1 => ?_⟩
  refine ⟨env, ρ1, F1, s1, g1, l.mono l1, Po.bind k1 fun y s2 ρ2 F2 H2 u e2 l2 g2 r2 k2 => ?_⟩
  exact ho ρ2 F2 s2 H2 v u x y Q _ g2 (Den.mono l2 _ _ r1) r2 k2
theorem es_op {op : Operator} {r : R2} {f : Dt → Dt → Sto → Out Dt} (hr : OpR X (binaryOp op) r) (ho : OpS (wd J X) r f) (ha : ES J X W a fa) (hb : ES J X W b fb) : ES J X W (.BinOp a op b pos) (eOp f fa fb) :=
  PE.imp (pe_op hr ha hb) fun _ _ _ h => tE_op ho h
/-- an operation of one place -/
def eUn (op : Dt → Sto → Out Dt) (fa : Ex) : Ex := fun env => bnd (fa env) op
def UnS (Γ : Wd) (r : V → Hp → VK → Prop) (op : Dt → Sto → Out Dt) : Prop := ∀ ρ F s H x dx Q E, G Γ ρ F s H → Den Γ ρ F dx x → EPo Γ ρ F H Q E (op dx s) → r x H Q
theorem es_un {op : UnaryOp} {r : V → Hp → VK → Prop} {f : Dt → Sto → Out Dt} (hr : UnR X (unaryOp op) r) (ho : UnS (wd J X) r f) (ha : ES J X W a fa) : ES J X W (.UnaryOp op a pos) (eUn f fa) :=
  PE.imp (pe_un hr ha) fun σ H Q ⟨env, ρ, F, s, g, l, k⟩ => ⟨env, ρ, F, s, g, l, Po.bind k fun x s1 ρ1 F1 H1 v e1 l1 g1 r1 k1 => ho ρ1 F1 s1 H1 v x Q _ g1 r1 k1⟩
/-! ints -/
def iOp (g : Int → Int → Dt) (ok : Int → Int → Bool) : Dt → Dt → Sto → Out Dt
  | .int i, .int j, s => if ok i j then .ok (g i j) s else .bad
  | _, _, _ => .bad
theorem iOp_some {Γ : Wd} {C : Int → Int → Prop} {gv : Int → Int → V} {gd : Int → Int → Dt} {ok : Int → Int → Bool} (hc : ∀ i j, ok i j = true → C i j) (hd : ∀ ρ F i j, Den Γ ρ F (gd i j) (gv i j)) : OpS Γ (rI C gv) (iOp gd ok) := by
  intro ρ F s H x y dx dy Q E g rx ry k
  cases dx with
  | int i =>
    cases dy with
    | int j =>
      simp only [Den] at rx ry
      simp only [iOp] at k
      split at k
      · rename_i h
        exact ⟨i, j, rx, ry, hc _ _ h, k ρ F H _ LE.refl g (hd ρ F i j)⟩
      · exact k.elim
    | _ => exact False.elim k
  | _ => exact False.elim k
theorem iOp_all {Γ : Wd} {gv : Int → Int → V} {gd : Int → Int → Dt} (hd : ∀ ρ F i j, Den Γ ρ F (gd i j) (gv i j)) : OpS Γ (rI0 gv) (iOp gd fun _ _ => true) := by
  intro ρ F s H x y dx dy Q E g rx ry k
  cases dx with
  | int i =>
    cases dy with
    | int j =>
      simp only [Den] at rx ry
      exact ⟨i, j, rx, ry, k ρ F H _ LE.refl g (hd ρ F i j)⟩
    | _ => exact False.elim k
  | _ => exact False.elim k
abbrev dSub := iOp (fun i j => .int (i - j)) fun _ _ => true
abbrev dMul := iOp (fun i j => .int (i * j)) fun i j => decide ((-(2 ^ 64) < i ∧ i < 2 ^ 64) ∨ (-(2 ^ 64) < j ∧ j < 2 ^ 64))
abbrev dFdv := iOp (fun i j => .int (i / j)) fun _ j => decide (0 < j ∧ j < 1073741824)
abbrev dMod := iOp (fun i j => .int (i % j)) fun _ j => decide (0 < j)
abbrev dPow := iOp (fun i j => .int (i ^ j.toNat)) fun i j => decide (0 ≤ j ∧ j ≤ 1000000 ∧ i.natAbs < 2 ^ 64)
abbrev dLt := iOp (fun i j => .bl (decide (i < j))) fun _ _ => true
abbrev dLe := iOp (fun i j => .bl (decide (i ≤ j))) fun _ _ => true
abbrev dGt := iOp (fun i j => .bl (decide (j < i))) fun _ _ => true
abbrev dGe := iOp (fun i j => .bl (decide (j ≤ i))) fun _ _ => true
theorem es_sub (ha : ES J X W a fa) (hb : ES J X W b fb) : ES J X W (.BinOp a .Sub b pos) (eOp dSub fa fb) := es_op op_sub (iOp_all fun _ _ _ _ => by simp only [Den]) ha hb
theorem es_mul (ha : ES J X W a fa) (hb : ES J X W b fb) : ES J X W (.BinOp a .Mult b pos) (eOp dMul fa fb) := es_op op_mul (iOp_some (fun _ _ h => by simpa [CMul] using h) fun _ _ _ _ => by simp only [Den]) ha hb
theorem es_fdv (ha : ES J X W a fa) (hb : ES J X W b fb) : ES J X W (.BinOp a .FloorDiv b pos) (eOp dFdv fa fb) := es_op op_fdiv (iOp_some (fun _ _ h => by simpa [CDiv] using h) fun _ _ _ _ => by simp only [Den]) ha hb
theorem es_mod (ha : ES J X W a fa) (hb : ES J X W b fb) : ES J X W (.BinOp a .Mod b pos) (eOp dMod fa fb) := es_op op_mod (iOp_some (fun _ _ h => of_decide_eq_true h) fun _ _ _ _ => by simp only [Den]) ha hb
theorem es_pow (ha : ES J X W a fa) (hb : ES J X W b fb) : ES J X W (.BinOp a .Pow b pos) (eOp dPow fa fb) := es_op op_pow (iOp_some (fun _ _ h => by simpa [CPow] using h) fun _ _ _ _ => by simp only [Den]) ha hb
/-- a comparison that is known -/
def CmpOk (J : Cn) (X : Cx) (op : CmpOp) (f : Dt → Dt → Sto → Out Dt) : Prop := ∃ r, OpR X (compareOp op) r ∧ OpS (wd J X) r f
theorem c_lt : CmpOk J X .Lt dLt := ⟨_, op_lt, iOp_all fun _ _ _ _ => by simp only [Den]⟩
theorem c_le : CmpOk J X .LtE dLe := ⟨_, op_le, iOp_all fun _ _ _ _ => by simp only [Den]⟩
theorem c_gt : CmpOk J X .Gt dGt := ⟨_, op_gt, iOp_all fun _ _ _ _ => by simp only [Den]⟩
theorem c_ge : CmpOk J X .GtE dGe := ⟨_, op_ge, iOp_all fun _ _ _ _ => by simp only [Den]⟩
theorem es_cmp {op : CmpOp} {f : Dt → Dt → Sto → Out Dt} (h : CmpOk J X op f) (ha : ES J X W a fa) (hb : ES J X W b fb) (hm : behindInMarks op b = false := by rfl) : ES J X W (.Compare a [op] [b] pos) (eOp f fa fb) := by
  obtain ⟨r, hr, ho⟩ := h
  exact PE.imp (pe_cmpR hr ha hb hm) fun _ _ _ h => tE_op ho h
def dNeg : Dt → Sto → Out Dt
  | .int i, s => .ok (.int (-i)) s
  | _, _ => .bad
theorem es_neg (ha : ES J X W a fa) : ES J X W (.UnaryOp .USub a pos) (eUn dNeg fa) := es_un un_neg (fun ρ F s H x dx Q E g rx k => by
  unfold dNeg at k
  split at k
  · rename_i i
    simp only [Den] at rx
    exact ⟨i, rx, k ρ F H _ LE.refl g (by simp only [Den])⟩
  · exact k.elim) ha
/-! None -/
def isNon : Dt → Bool
  | .non => true
  | _ => false
theorem Den.isNon {Γ : Wd} {ρ : List Addr} {F : Hp} {d : Dt} {v : V} (r : Den Γ ρ F d v) : decide (v = .non) = Pd.isNon d := by
  cases d <;> simp only [Den] at r
  case tup => obtain ⟨_, a, xs, e, _⟩ := r; subst e; rfl
  case lst => obtain ⟨_, a, xs, e, _⟩ := r; subst e; rfl
  case lsk => obtain ⟨_, a, xs, e, _⟩ := r; subst e; rfl
  case obj => obtain ⟨a, e, _⟩ := r; subst e; rfl
  case exc => obtain ⟨a, xs, e, _⟩ := r; subst e; rfl
  case str => obtain ⟨e, _⟩ := r; subst e; rfl
  all_goals (subst r; rfl)
def dIsN (d : Dt) (s : Sto) : Out Dt := .ok (.bl (isNon d)) s
def dNotN (d : Dt) (s : Sto) : Out Dt := .ok (.bl (!isNon d)) s
theorem es_isN {j pos'} (ha : ES J X W a fa) : ES J X W (.Compare a [.Is] [.Constant .none j pos'] pos) (eUn dIsN fa) :=
  PE.imp (pe_cmp (pc_isN ha) (nobehind _ (by decide) (by decide))) fun σ H Q ⟨env, ρ, F, s, g, l, k⟩ => ⟨env, ρ, F, s, g, l, Po.bind k fun x s1 ρ1 F1 H1 v e1 l1 g1 r1 k1 => by
    rw [r1.isNon]
    exact k1 ρ1 F1 H1 _ LE.refl g1 (by simp only [Den])⟩
theorem es_notN {j pos'} (ha : ES J X W a fa) : ES J X W (.Compare a [.IsNot] [.Constant .none j pos'] pos) (eUn dNotN fa) :=
  PE.imp (pe_cmp (pc_notN ha) (nobehind _ (by decide) (by decide))) fun σ H Q ⟨env, ρ, F, s, g, l, k⟩ => ⟨env, ρ, F, s, g, l, Po.bind k fun x s1 ρ1 F1 H1 v e1 l1 g1 r1 k1 => by
    rw [r1.isNon]
    exact k1 ρ1 F1 H1 _ LE.refl g1 (by simp only [Den])⟩
end
end Pd
namespace Pd
open PySem L2
/-! ### data as the model compares it -/
mutual
def toPy : Dt → Option PyData
  | .non => some .none
  | .bl b => some (.bool b)
  | .int i => some (.int i)
  | .str x => some (.str x)
  | .tup l => (toPys l).map .tuple
  | .lst l => (toPys l).map .list
  | .lsk l => (toPys l).map .list
  | .obj _ => none
  | .exc _ => none
def toPys : List Dt → Option (List PyData)
  | [] => some []
  | d :: ds => match toPy d, toPys ds with
    | some a, some b => some (a :: b)
    | _, _ => none
end
def toPyS (s : Sto) (d : Dt) : Option PyData := match d with
  | .obj i => match s[i]? with
    | some (.lst l) => (toPys l).map .list
    | _ => none
  | d => toPy d
section
variable {Γ : Wd} {ρ : List Addr} {F H : Hp} {s : Sto}
mutual
theorem Den.dp (g : ∀ a o, F a = some o → H a = some o) : ∀ (d : Dt) (v : V) (p : PyData), Den Γ ρ F d v → toPy d = some p → Dp Γ.K H v p ∧ p.canLay0 = true
  | .non, v, p, h, e => by simp only [Den] at h; simp only [toPy, Option.some.injEq] at e; subst h; subst e; exact ⟨.non, rfl⟩
  | .bl b, v, p, h, e => by simp only [Den] at h; simp only [toPy, Option.some.injEq] at e; subst h; subst e; exact ⟨.bl b, rfl⟩
  | .int i, v, p, h, e => by simp only [Den] at h; simp only [toPy, Option.some.injEq] at e; subst h; subst e; exact ⟨.int i, rfl⟩
  | .str x, v, p, h, e => by
    simp only [Den] at h; simp only [toPy, Option.some.injEq] at e
    obtain ⟨h, k⟩ := h
    subst h; subst e
    unfold sok at k
    simp only [Bool.and_eq_true] at k
    exact ⟨.str x, k.1⟩
  | .tup l, v, p, h, e => by
    simp only [Den] at h; simp only [toPy, Option.map_eq_some_iff] at e
    obtain ⟨z, a, xs, e1, q, t⟩ := h
    obtain ⟨ps, e2, e3⟩ := e
    subst e1; subst e3
    obtain ⟨r1, r2⟩ := Dens.dp g l xs ps t e2
    exact ⟨.tup (SqT.of (g _ _ q)) r1, r2⟩
  | .lst l, v, p, h, e => by
    simp only [Den] at h; simp only [toPy, Option.map_eq_some_iff] at e
    obtain ⟨z, a, xs, e1, q, t⟩ := h
    obtain ⟨ps, e2, e3⟩ := e
    subst e1; subst e3
    obtain ⟨r1, r2⟩ := Dens.dp g l xs ps t e2
    exact ⟨.lst (SqL.of (g _ _ q)) r1, r2⟩
  | .lsk l, v, p, h, e => by
    simp only [Den] at h; simp only [toPy, Option.map_eq_some_iff] at e
    obtain ⟨z, a, xs, e1, q, t⟩ := h
    obtain ⟨ps, e2, e3⟩ := e
    subst e1; subst e3
    obtain ⟨r1, r2⟩ := Dens.dp g l xs ps t e2
    exact ⟨.lst (sqL_sub g q) r1, r2⟩
  | .obj _, v, p, h, e => by simp [toPy] at e
  | .exc _, v, p, h, e => by simp [toPy] at e
theorem Dens.dp (g : ∀ a o, F a = some o → H a = some o) : ∀ (d : List Dt) (v : List V) (p : List PyData), Dens Γ ρ F d v → toPys d = some p → DpAll Γ.K H v p ∧ PyData.canLayAll0 p = true
  | [], v, p, h, e => by
    simp only [Dens] at h; simp only [toPys, Option.some.injEq] at e
    subst h; subst e
    exact ⟨.nil, rfl⟩
  | d :: ds, v, p, h, e => by
    simp only [Dens] at h; simp only [toPys] at e
    obtain ⟨w, r, e1, q, t⟩ := h
    subst e1
    split at e
    · rename_i a b ha hb
      cases e
      obtain ⟨r1, r2⟩ := Den.dp g d w a q ha
      obtain ⟨r3, r4⟩ := Dens.dp g ds r b t hb
      exact ⟨.cons r1 r3, by simp only [PyData.canLayAll0, r2, r4, Bool.and_self]⟩
    · cases e
end
theorem G.dp (g : G Γ ρ F s H) {d : Dt} {v : V} {p : PyData} (h : Den Γ ρ F d v) (e : toPyS s d = some p) : Dp Γ.K H v p ∧ p.canLay0 = true := by
  cases d with
  | obj i =>
    simp only [Den] at h
    obtain ⟨a, e1, q⟩ := h
    simp only [toPyS] at e
    split at e
    · rename_i l hs
      simp only [Option.map_eq_some_iff] at e
      obtain ⟨ps, e2, e3⟩ := e
      subst e3; subst e1
      obtain ⟨z, xs, hx, t⟩ := g.at_ i a _ q hs
      obtain ⟨r1, r2⟩ := Dens.dp g.sub l xs ps t e2
      exact ⟨.lst (SqL.of hx) r1, r2⟩
    · cases e
  | _ => exact Den.dp g.sub _ v p h e
end
theorem shaped_of {p : PyData} (h1 : p.canLay0 = true) (h2 : p.depth ≤ 64) : SeqAt.shaped p = true := by
  unfold SeqAt.shaped
  rw [h1, Bool.true_and]
  exact decide_eq_true h2
def dEqB (s : Sto) (x y : Dt) : Option Bool := match toPyS s x, toPyS s y with
  | some a, some b => if a.depth ≤ 64 ∧ b.depth ≤ 64 then some (PyData.eqv a b) else none
  | _, _ => none
def ofO (s : Sto) : Option Dt → Out Dt
  | some d => .ok d s
  | none => .bad
def dEq (x y : Dt) (s : Sto) : Out Dt := ofO s ((dEqB s x y).map .bl)
def dNe (x y : Dt) (s : Sto) : Out Dt := ofO s ((dEqB s x y).map fun b => .bl (!b))
theorem dEqB_of {Γ : Wd} {ρ : List Addr} {F H : Hp} {s : Sto} (g : G Γ ρ F s H) {x y : Dt} {u v : V} {c : Bool} (hx : Den Γ ρ F x u) (hy : Den Γ ρ F y v) (e : dEqB s x y = some c) :
    ∃ a b, Dp Γ.K H u a ∧ Dp Γ.K H v b ∧ SeqAt.shaped a = true ∧ SeqAt.shaped b = true ∧ c = PyData.eqv a b := by
  unfold dEqB at e
  split at e
  · rename_i a b ha hb
    split at e
    · rename_i hd
      cases e
      obtain ⟨r1, r2⟩ := g.dp hx ha
      obtain ⟨r3, r4⟩ := g.dp hy hb
      exact ⟨a, b, r1, r3, shaped_of r2 hd.1, shaped_of r4 hd.2, rfl⟩
    · cases e
  · cases e
section
variable {J : Cn} {X : Cx} {W : WX} {a b c e : Expr} {es : List Expr} {fa fb fc : Ex} {fs : List Ex} {ft fu : Tx} {pos : Pos}
theorem Po.ofO {Γ : Wd} {ρ : List Addr} {F H : Hp} {Q : VK} {E : Value → Hp → Prop} {s : Sto} {o : Option Dt} (h : EPo Γ ρ F H Q E (ofO s o)) : ∃ d, o = some d ∧ EPo Γ ρ F H Q E (.ok d s) := by
  cases o with
  | none => exact False.elim h
  | some d => exact ⟨d, rfl, h⟩
theorem c_eq (hu : X.A.units + 64 < cLine) : CmpOk J X .Eq dEq := ⟨_, op_eqD hu, fun ρ F s H x y dx dy Q E g rx ry k => by
  obtain ⟨d, e, k⟩ := k.ofO
  obtain ⟨c, e1, e2⟩ := Option.map_eq_some_iff.mp e
  subst e2
  obtain ⟨p, q, r1, r2, s1, s2, e3⟩ := dEqB_of g rx ry e1
  refine ⟨p, q, r1, r2, s1, s2, ?_⟩
  rw [← e3]
  exact k ρ F H _ LE.refl g (by simp only [Den])⟩
theorem c_ne (hu : X.A.units + 64 < cLine) : CmpOk J X .NotEq dNe := ⟨_, op_neD hu, fun ρ F s H x y dx dy Q E g rx ry k => by
  obtain ⟨d, e, k⟩ := k.ofO
  obtain ⟨c, e1, e2⟩ := Option.map_eq_some_iff.mp e
  subst e2
  obtain ⟨p, q, r1, r2, s1, s2, e3⟩ := dEqB_of g rx ry e1
  refine ⟨p, q, r1, r2, s1, s2, ?_⟩
  rw [← e3]
  exact k ρ F H _ LE.refl g (by simp only [Den])⟩
/-! truth -/
def truD (s : Sto) : Dt → Option Bool
  | .non => some false
  | .bl b => some b
  | .int i => some (i != 0)
  | .str x => some ((x.length : Int) != 0)
  | .tup l => some (!l.isEmpty)
  | .lst l => some (!l.isEmpty)
  | .lsk l => some (!l.isEmpty)
  | .obj i => match s[i]? with
    | some (.lst l) => some (!l.isEmpty)
    | some (.dic kvs) => some (!kvs.isEmpty)
    | _ => none
  | .exc _ => none
theorem Dens.isEmpty {Γ : Wd} {ρ : List Addr} {F : Hp} {l : List Dt} {xs : List V} (h : Dens Γ ρ F l xs) : xs.isEmpty = l.isEmpty := by
  have e := h.length
  cases l <;> cases xs <;> simp_all
theorem DenK.length {κ : Type} {Γ : Wd} {ρ : List Addr} {F : Hp} : ∀ {l : List (κ × Dt)} {xs : List (κ × V)}, DenK Γ ρ F l xs → l.length = xs.length
  | [], xs, h => by rw [show xs = [] from h]; rfl
  | (k, d) :: l, xs, h => by
    obtain ⟨v, r, e, q, t⟩ := h
    rw [e, List.length_cons, List.length_cons, DenK.length t]
theorem DenK.isEmpty {κ : Type} {Γ : Wd} {ρ : List Addr} {F : Hp} {l : List (κ × Dt)} {xs : List (κ × V)} (h : DenK Γ ρ F l xs) : xs.isEmpty = l.isEmpty := by
  have e := h.length
  cases l <;> cases xs <;> simp_all
theorem sok_len {x : Str} (h : sok x = true) : x.length ≤ sizeLine := by
  unfold sok at h
  simp only [Bool.and_eq_true, decide_eq_true_eq] at h
  rw [sizeLine_eq]
  omega
theorem G.tru {Γ : Wd} {ρ : List Addr} {F H : Hp} {s : Sto} (g : G Γ ρ F s H) {d : Dt} {v : V} {k : Bool} (h : Den Γ ρ F d v) (e : truD s d = some k) : TruV Γ.K v H k := by
  cases d with
  | non => simp only [Den] at h; simp only [truD, Option.some.injEq] at e; subst h; subst e; exact rfl
  | bl b => simp only [Den] at h; simp only [truD, Option.some.injEq] at e; subst h; subst e; exact rfl
  | int i => simp only [Den] at h; simp only [truD, Option.some.injEq] at e; subst h; subst e; exact rfl
  | str x =>
    simp only [Den] at h; simp only [truD, Option.some.injEq] at e
    obtain ⟨h, hk⟩ := h
    subst h; subst e
    exact ⟨sok_len hk, rfl⟩
  | tup l =>
    simp only [truD, Option.some.injEq] at e; subst e
    obtain ⟨a, xs, e1, q, t, _⟩ := g.sqT h (l := l) rfl
    subst e1
    exact .inr (.inl ⟨xs, q, by rw [t.isEmpty]⟩)
  | lst l =>
    simp only [truD, Option.some.injEq] at e; subst e
    obtain ⟨a, xs, e1, q, t, _⟩ := g.sqL h (l := l) rfl
    subst e1
    exact .inl ⟨xs, q, by rw [t.isEmpty]⟩
  | lsk l =>
    simp only [truD, Option.some.injEq] at e; subst e
    obtain ⟨a, xs, e1, q, t, _⟩ := g.sqL h (l := l) rfl
    subst e1
    exact .inl ⟨xs, q, by rw [t.isEmpty]⟩
  | obj i =>
    simp only [Den] at h
    obtain ⟨a, e1, q⟩ := h
    subst e1
    simp only [truD] at e
    split at e
    · rename_i l hs
      cases e
      obtain ⟨z, xs, hx, t⟩ := g.at_ i a _ q hs
      exact .inl ⟨xs, SqL.of hx, by rw [t.isEmpty]⟩
    · rename_i l hs
      cases e
      obtain ⟨z, xs, hx, t⟩ := g.at_ i a _ q hs
      exact .inr (.inr ⟨xs, hx, by rw [t.isEmpty]⟩)
    · cases e
  | exc c => simp [truD] at e
def ofB (s : Sto) : Option Bool → Out Bool
  | some d => .ok d s
  | none => .bad
def tTru (f : Ex) : Tx := fun env => bnd (f env) fun d s => ofB s (truD s d)
theorem ts_tru (ha : ES J X W a fa) (he : ∀ whole, isTrue a X.env whole = (do let v ← whole; standAt a.pos; holding [v] (truthy v)) := by intro _; rfl) : TSo J X W a (tTru fa) :=
  PT.imp (pt_truth ha he) fun σ H Q ⟨env, ρ, F, s, g, l, k⟩ => ⟨env, ρ, F, s, g, l, Po.bind k fun x s1 ρ1 F1 H1 v e1 l1 g1 r1 k1 => by
    cases e : truD s1 x with
    | none => rw [e] at k1; exact False.elim k1
    | some b => rw [e] at k1; exact ⟨b, g1.tru r1 e, k1 ρ1 F1 H1 b LE.refl g1 rfl⟩⟩
def tBl (f : Ex) : Tx := fun env => bnd (f env) fun d s => match d with
  | .bl b => .ok b s
  | _ => .bad
/-- a value that is a truth, as a test, by a rule of its own -/
theorem tT_bl {Γ : Wd} {σ : St} {H : Hp} {Q : Bool → Hp → Prop} (h : tT Γ W (tBl fa) σ H Q) : tE Γ W fa σ H fun x H' => ∃ k, x = .bl k ∧ Q k H' := by
  obtain ⟨env, ρ, F, s, g, l, k⟩ := h
  refine ⟨env, ρ, F, s, g, l, Po.bind k fun x s1 ρ1 F1 H1 v e1 l1 g1 r1 k1 => ?_⟩
  cases x with
  | bl b => simp only [Den] at r1; exact ⟨b, r1, k1 ρ1 F1 H1 b LE.refl g1 rfl⟩
  | _ => exact False.elim k1
theorem ts_cmp {op : CmpOp} {f : Dt → Dt → Sto → Out Dt} (h : CmpOk J X op f) (ha : ES J X W a fa) (hb : ES J X W b fb) (hm : behindInMarks op b = false := by rfl) : TSo J X W (.Compare a [op] [b] pos) (tBl (eOp f fa fb)) := by
  obtain ⟨r, hr, ho⟩ := h
  exact PT.imp (pt_cmpR hr ha hb hm) fun σ H Q h => tE_op (Q := fun x H' => ∃ k, x = .bl k ∧ Q k H') ho (tT_bl h)
theorem ts_isN {j pos'} (ha : ES J X W a fa) : TSo J X W (.Compare a [.Is] [.Constant .none j pos'] pos) (tBl (eUn dIsN fa)) :=
  PT.imp (pt_cmp (pc_isN ha) (nobehind _ (by decide) (by decide))) fun σ H Q h => by
    obtain ⟨env, ρ, F, s, g, l, k⟩ := tT_bl h
    exact ⟨env, ρ, F, s, g, l, Po.bind k fun x s1 ρ1 F1 H1 v e1 l1 g1 r1 k1 => by
      rw [r1.isNon]
      exact k1 ρ1 F1 H1 _ LE.refl g1 (by simp only [Den])⟩
theorem ts_notN {j pos'} (ha : ES J X W a fa) : TSo J X W (.Compare a [.IsNot] [.Constant .none j pos'] pos) (tBl (eUn dNotN fa)) :=
  PT.imp (pt_cmp (pc_notN ha) (nobehind _ (by decide) (by decide))) fun σ H Q h => by
    obtain ⟨env, ρ, F, s, g, l, k⟩ := tT_bl h
    exact ⟨env, ρ, F, s, g, l, Po.bind k fun x s1 ρ1 F1 H1 v e1 l1 g1 r1 k1 => by
      rw [r1.isNon]
      exact k1 ρ1 F1 H1 _ LE.refl g1 (by simp only [Den])⟩
def tAnd (ft fu : Tx) : Tx := fun env => bnd (ft env) fun c s => if c = true then fu env s else .ok false s
def tOr (ft fu : Tx) : Tx := fun env => bnd (ft env) fun c s => if c = true then .ok true s else fu env s
def tNot (ft : Tx) : Tx := fun env => bnd (ft env) fun c s => .ok (!c) s
theorem ws_and1 (ha : TSo J X W a ft) : WSo J X W (.BoolOp .And [a] pos) ft := pw_and1 ha
theorem ws_or1 (ha : TSo J X W a ft) : WSo J X W (.BoolOp .Or [a] pos) ft := pw_or1 ha
theorem ws_and {rest : List Expr} (ha : TSo J X W a ft) (hb : WSo J X W (.BoolOp .And (b :: rest) pos) fu) : WSo J X W (.BoolOp .And (a :: b :: rest) pos) (tAnd ft fu) :=
  PW.imp (pw_and ha hb) fun σ H Q ⟨env, ρ, F, s, g, l, k⟩ => ⟨env, ρ, F, s, g, l, Po.bind k fun x s1 ρ1 F1 H1 v e1 l1 g1 r1 k1 => by
    subst r1
    cases x with
    | true => exact ⟨env, ρ1, F1, s1, g1, l.mono l1, k1⟩
    | false => exact k1 ρ1 F1 H1 false LE.refl g1 rfl⟩
theorem ws_or {rest : List Expr} (ha : TSo J X W a ft) (hb : WSo J X W (.BoolOp .Or (b :: rest) pos) fu) : WSo J X W (.BoolOp .Or (a :: b :: rest) pos) (tOr ft fu) :=
  PW.imp (pw_or ha hb) fun σ H Q ⟨env, ρ, F, s, g, l, k⟩ => ⟨env, ρ, F, s, g, l, Po.bind k fun x s1 ρ1 F1 H1 v e1 l1 g1 r1 k1 => by
    subst r1
    cases x with
    | true => exact k1 ρ1 F1 H1 true LE.refl g1 rfl
    | false => exact ⟨env, ρ1, F1, s1, g1, l.mono l1, k1⟩⟩
theorem ts_w (h : WSo J X W e ft) : TSo J X W e ft := h.pt
theorem ts_not (ha : TSo J X W a ft) : TSo J X W (.UnaryOp .Not a pos) (tNot ft) :=
  PT.imp (pt_not ha) fun σ H Q ⟨env, ρ, F, s, g, l, k⟩ => ⟨env, ρ, F, s, g, l, Po.bind k fun x s1 ρ1 F1 H1 v e1 l1 g1 r1 k1 => by
    subst r1
    exact k1 ρ1 F1 H1 _ LE.refl g1 rfl⟩
/-! and, or, not as values -/
def eAnd (fa fb : Ex) : Ex := fun env => bnd (fa env) fun d s => match truD s d with
  | some true => fb env s
  | some false => .ok d s
  | none => .bad
def eOr (fa fb : Ex) : Ex := fun env => bnd (fa env) fun d s => match truD s d with
  | some true => .ok d s
  | some false => fb env s
  | none => .bad
def eNot (fa : Ex) : Ex := fun env => bnd (fa env) fun d s => ofO s ((truD s d).map fun b => .bl (!b))
theorem es_one {op} (h : ES J X W a fa) : ES J X W (.BoolOp op [a] pos) fa := pe_one h
theorem es_and {rest : List Expr} (ha : ES J X W a fa) (hb : ES J X W (.BoolOp .And (b :: rest) pos) fb) : ES J X W (.BoolOp .And (a :: b :: rest) pos) (eAnd fa fb) :=
  PE.imp (pe_andT ha hb) fun σ H Q ⟨env, ρ, F, s, g, l, k⟩ => ⟨env, ρ, F, s, g, l, Po.bind k fun x s1 ρ1 F1 H1 v e1 l1 g1 r1 k1 => by
    cases e : truD s1 x with
    | none => rw [e] at k1; exact False.elim k1
    | some b =>
      rw [e] at k1
      refine ⟨b, g1.tru r1 e, ?_⟩
      cases b with
      | true => exact ⟨env, ρ1, F1, s1, g1, l.mono l1, k1⟩
      | false => exact k1 ρ1 F1 H1 v LE.refl g1 r1⟩
theorem es_or {rest : List Expr} (ha : ES J X W a fa) (hb : ES J X W (.BoolOp .Or (b :: rest) pos) fb) : ES J X W (.BoolOp .Or (a :: b :: rest) pos) (eOr fa fb) :=
  PE.imp (pe_orT ha hb) fun σ H Q ⟨env, ρ, F, s, g, l, k⟩ => ⟨env, ρ, F, s, g, l, Po.bind k fun x s1 ρ1 F1 H1 v e1 l1 g1 r1 k1 => by
    cases e : truD s1 x with
    | none => rw [e] at k1; exact False.elim k1
    | some b =>
      rw [e] at k1
      refine ⟨b, g1.tru r1 e, ?_⟩
      cases b with
      | true => exact k1 ρ1 F1 H1 v LE.refl g1 r1
      | false => exact ⟨env, ρ1, F1, s1, g1, l.mono l1, k1⟩⟩
theorem es_not (ha : ES J X W a fa) : ES J X W (.UnaryOp .Not a pos) (eNot fa) :=
  PE.imp (pe_notT ha) fun σ H Q ⟨env, ρ, F, s, g, l, k⟩ => ⟨env, ρ, F, s, g, l, Po.bind k fun x s1 ρ1 F1 H1 v e1 l1 g1 r1 k1 => by
    obtain ⟨d, e, k1⟩ := Po.ofO k1
    obtain ⟨b, e2, e3⟩ := Option.map_eq_some_iff.mp e
    subst e3
    exact ⟨b, g1.tru r1 e2, k1 ρ1 F1 H1 _ LE.refl g1 (by simp only [Den])⟩⟩
def eIf (ft : Tx) (fa fb : Ex) : Ex := fun env => bnd (ft env) fun c s => if c = true then fa env s else fb env s
theorem es_if (hc : TSo J X W c ft) (ha : ES J X W a fa) (hb : ES J X W b fb) : ES J X W (.IfExp c a b pos) (eIf ft fa fb) :=
  PE.imp (pe_ifExp hc ha hb) fun σ H Q ⟨env, ρ, F, s, g, l, k⟩ => ⟨env, ρ, F, s, g, l, Po.bind k fun x s1 ρ1 F1 H1 v e1 l1 g1 r1 k1 => by
    subst r1
    cases x with
    | true => exact ⟨env, ρ1, F1, s1, g1, l.mono l1, k1⟩
    | false => exact ⟨env, ρ1, F1, s1, g1, l.mono l1, k1⟩⟩
/-- a op b op' c -/
def eChain (op op' : Dt → Dt → Sto → Out Dt) (fa fb fc : Ex) : Ex := fun env => bnd (fa env) fun x => bnd (fb env) fun y => bnd (op x y) fun z s => match z with
  | .bl true => bnd (fc env) (fun w => op' y w) s
  | .bl false => .ok (.bl false) s
  | _ => .bad
theorem tE_chain {Γ : Wd} {r r' : R2} {op op' : Dt → Dt → Sto → Out Dt} (ho : OpS Γ r op) (ho' : OpS Γ r' op') {σ : St} {H : Hp} {Q : VK} (h : tE Γ W (eChain op op' fa fb fc) σ H Q) : tChain r r' (tE Γ W fa) (tE Γ W fb) (tE Γ W fc) σ H Q := by
  obtain ⟨env, ρ, F, s, g, l, k⟩ := h
  refine ⟨env, ρ, F, s, g, l, Po.bind k fun x s1 ρ1 F1 H1 v e1 l1 g1 r1 k1 => ?_⟩
  refine ⟨env, ρ1, F1, s1, g1, l.mono l1, Po.bind k1 fun y s2 ρ2 F2 H2 u e2 l2 g2 r2 k2 => ?_⟩
  refine ho ρ2 F2 s2 H2 v u x y _ _ g2 (Den.mono l2 _ _ r1) r2 (Po.bind k2 fun z s3 ρ3 F3 H3 t e3 l3 g3 r3 k3 => ?_)
  cases z with
  | bl b =>
    simp only [Den] at r3
    refine ⟨b, r3, ?_⟩
    cases b with
    | true =>
      refine ⟨env, ρ3, F3, s3, g3, (l.mono l1).mono (l2.trans l3), Po.bind k3 fun w s4 ρ4 F4 H4 q e4 l4 g4 r4 k4 => ?_⟩
      exact ho' ρ4 F4 s4 H4 u q y w Q _ g4 (Den.mono (l3.trans l4) _ _ r2) r4 k4
    | false => exact k3 ρ3 F3 H3 _ LE.refl g3 (by simp only [Den])
  | _ => exact False.elim k3
theorem last_no {op op' : CmpOp} {b c : Expr} (h : op' ≠ .In) (h2 : op' ≠ .NotIn) : lastMarks [op, op'] [b, c] = false := nobehind c h h2
theorem es_leLt (ha : ES J X W a fa) (hb : ES J X W b fb) (hc : ES J X W c fc) : ES J X W (.Compare a [.LtE, .Lt] [b, c] pos) (eChain dLe dLt fa fb fc) := PE.imp (pe_chain op_le op_lt ha hb hc (last_no (by decide) (by decide))) fun _ _ _ h => tE_chain (iOp_all fun _ _ _ _ => by simp only [Den]) (iOp_all fun _ _ _ _ => by simp only [Den]) h
theorem es_leLe (ha : ES J X W a fa) (hb : ES J X W b fb) (hc : ES J X W c fc) : ES J X W (.Compare a [.LtE, .LtE] [b, c] pos) (eChain dLe dLe fa fb fc) := PE.imp (pe_chain op_le op_le ha hb hc (last_no (by decide) (by decide))) fun _ _ _ h => tE_chain (iOp_all fun _ _ _ _ => by simp only [Den]) (iOp_all fun _ _ _ _ => by simp only [Den]) h
theorem es_ltLt (ha : ES J X W a fa) (hb : ES J X W b fb) (hc : ES J X W c fc) : ES J X W (.Compare a [.Lt, .Lt] [b, c] pos) (eChain dLt dLt fa fb fc) := PE.imp (pe_chain op_lt op_lt ha hb hc (last_no (by decide) (by decide))) fun _ _ _ h => tE_chain (iOp_all fun _ _ _ _ => by simp only [Den]) (iOp_all fun _ _ _ _ => by simp only [Den]) h
theorem es_ltLe (ha : ES J X W a fa) (hb : ES J X W b fb) (hc : ES J X W c fc) : ES J X W (.Compare a [.Lt, .LtE] [b, c] pos) (eChain dLt dLe fa fb fc) := PE.imp (pe_chain op_lt op_le ha hb hc (last_no (by decide) (by decide))) fun _ _ _ h => tE_chain (iOp_all fun _ _ _ _ => by simp only [Den]) (iOp_all fun _ _ _ _ => by simp only [Den]) h
theorem ts_leLt (ha : ES J X W a fa) (hb : ES J X W b fb) (hc : ES J X W c fc) : TSo J X W (.Compare a [.LtE, .Lt] [b, c] pos) (tBl (eChain dLe dLt fa fb fc)) := PT.imp (pt_chain op_le op_lt ha hb hc (last_no (by decide) (by decide))) fun _ _ _ h => tE_chain (iOp_all fun _ _ _ _ => by simp only [Den]) (iOp_all fun _ _ _ _ => by simp only [Den]) (tT_bl h)
theorem ts_leLe (ha : ES J X W a fa) (hb : ES J X W b fb) (hc : ES J X W c fc) : TSo J X W (.Compare a [.LtE, .LtE] [b, c] pos) (tBl (eChain dLe dLe fa fb fc)) := PT.imp (pt_chain op_le op_le ha hb hc (last_no (by decide) (by decide))) fun _ _ _ h => tE_chain (iOp_all fun _ _ _ _ => by simp only [Den]) (iOp_all fun _ _ _ _ => by simp only [Den]) (tT_bl h)
theorem ts_ltLt (ha : ES J X W a fa) (hb : ES J X W b fb) (hc : ES J X W c fc) : TSo J X W (.Compare a [.Lt, .Lt] [b, c] pos) (tBl (eChain dLt dLt fa fb fc)) := PT.imp (pt_chain op_lt op_lt ha hb hc (last_no (by decide) (by decide))) fun _ _ _ h => tE_chain (iOp_all fun _ _ _ _ => by simp only [Den]) (iOp_all fun _ _ _ _ => by simp only [Den]) (tT_bl h)
theorem ts_ltLe (ha : ES J X W a fa) (hb : ES J X W b fb) (hc : ES J X W c fc) : TSo J X W (.Compare a [.Lt, .LtE] [b, c] pos) (tBl (eChain dLt dLe fa fb fc)) := PT.imp (pt_chain op_lt op_le ha hb hc (last_no (by decide) (by decide))) fun _ _ _ h => tE_chain (iOp_all fun _ _ _ _ => by simp only [Den]) (iOp_all fun _ _ _ _ => by simp only [Den]) (tT_bl h)
end
end Pd
namespace Pd
open PySem L2
/-! ### flat things -/
def flatD : Dt → Bool
  | .non => true
  | .bl _ => true
  | .int _ => true
  | .str _ => true
  | _ => false
def feq : Dt → Dt → Bool
  | .non, .non => true
  | .bl a, .bl b => a == b
  | .bl a, .int b => (if a then 1 else 0) == b
  | .int a, .bl b => a == (if b then 1 else 0)
  | .int a, .int b => a == b
  | .str a, .str b => a == b
  | _, _ => false
def toVd : Dt → V
  | .bl b => .bl b
  | .int i => .int i
  | .str x => .str x
  | _ => .non
theorem eqV_toVd {d e : Dt} (h : flatD d = true) (k : flatD e = true) : eqV (toVd d) (toVd e) = feq d e := by
  cases d <;> cases e <;> first | rfl | exact Bool.noConfusion h | exact Bool.noConfusion k
theorem flatV_toVd (d : Dt) : flatV (toVd d) = true := by cases d <;> rfl
section
variable {Γ : Wd} {ρ : List Addr} {F H : Hp} {s : Sto}
theorem Den.flat {d : Dt} {v : V} (h : Den Γ ρ F d v) (k : flatD d = true) : v = toVd d := by
  cases d with
  | non => simp only [Den] at h; exact h
  | bl b => simp only [Den] at h; exact h
  | int i => simp only [Den] at h; exact h
  | str x => simp only [Den] at h; exact h.1
  | _ => simp [flatD] at k
theorem Dens.flat : ∀ {ds : List Dt} {vs : List V}, Dens Γ ρ F ds vs → ds.all flatD = true → vs = ds.map toVd
  | [], vs, h, k => by simp only [Dens] at h; exact h
  | d :: ds, vs, h, k => by
    simp only [Dens] at h
    obtain ⟨v, r, e, q, t⟩ := h
    simp only [List.all_cons, Bool.and_eq_true] at k
    rw [e, List.map_cons, q.flat k.1, Dens.flat t k.2]
end
theorem any_toVd {x : Dt} (hx : flatD x = true) : ∀ {ds : List Dt}, ds.all flatD = true → inV (toVd x) (ds.map toVd) = ds.any fun e => feq e x
  | [], _ => rfl
  | d :: ds, k => by
    simp only [List.all_cons, Bool.and_eq_true] at k
    have ih := any_toVd hx k.2
    unfold inV at ih ⊢
    rw [List.map_cons, List.any_cons, List.any_cons, ih, eqV_toVd k.1 hx]
theorem all_flat_map : ∀ ds : List Dt, (ds.map toVd).all flatV = true
  | [] => rfl
  | d :: ds => by rw [List.map_cons, List.all_cons, flatV_toVd, all_flat_map ds]; rfl
/-- x in y -/
def inB (s : Sto) (x y : Dt) : Option Bool := match y with
  | .str z => match x with
    | .str w => match w.cps.toList with
      | [c] => some (decide (c ∈ z.cps.toList))
      | _ => none
    | _ => none
  | _ => match asQ s y with
    | some l => if flatD x && l.all flatD then some (l.any fun e => feq e x) else match toPyS s x, toPyS s y with
      | some d, some (.list ds) => if d.depth ≤ 64 ∧ (PyData.list ds).depth ≤ 64 then some (ds.any fun z => PyData.eqv z d) else none
      | some d, some (.tuple ds) => if d.depth ≤ 64 ∧ (PyData.tuple ds).depth ≤ 64 then some (ds.any fun z => PyData.eqv z d) else none
      | _, _ => none
    | none => none
theorem str_one {w : Str} {c : Nat} (h : w.cps.toList = [c]) : w = ⟨#[c]⟩ := by
  cases w with
  | mk a =>
    have e : a = #[c] := by apply Array.toList_inj.mp; simpa using h
    rw [e]
def rInAll (K : PySem.W.Frag) (f : Bool → Bool) : R2 := fun x y H Q =>
  (∃ (c : Nat) (z : Str), x = .str ⟨#[c]⟩ ∧ y = .str z ∧ Q (.bl (f (decide (c ∈ z.cps.toList)))) H) ∨
  ((∃ p xs, y = .ref p ∧ (SqL K H p xs ∨ SqT K H p xs) ∧ flatV x = true ∧ xs.all flatV = true ∧ Q (.bl (f (inV x xs))) H) ∨
  ((∃ d ds, Dp K H x d ∧ Dp K H y (.list ds) ∧ SeqAt.shaped d = true ∧ SeqAt.shaped (.list ds) = true ∧ Q (.bl (f (ds.any fun z => PyData.eqv z d))) H) ∨
  ∃ d ds, Dp K H x d ∧ Dp K H y (.tuple ds) ∧ SeqAt.shaped d = true ∧ SeqAt.shaped (.tuple ds) = true ∧ Q (.bl (f (ds.any fun z => PyData.eqv z d))) H))
def rInT (K : PySem.W.Frag) (f : Bool → Bool) : R2 := fun x y H Q => ∃ d ds, Dp K H x d ∧ Dp K H y (.tuple ds) ∧ SeqAt.shaped d = true ∧ SeqAt.shaped (.tuple ds) = true ∧ Q (.bl (f (ds.any fun z => PyData.eqv z d))) H
theorem op_inT {X : Cx} (hu : X.A.units + 65 < cLine) : OpR X (compareOp .In) (rInT X.K fun b => b) := by
  intro pins s σ H x y v u Q I rx ry h
  obtain ⟨d, ds, hd, he, sd, se, q⟩ := h
  obtain ⟨as, r1⟩ := Dp.reads I d x v hd rx
  obtain ⟨bs, r2⟩ := Dp.reads I (.tuple ds) y u he ry
  exact SeqAt.in_tuple_reads r2 r1 (SeqAt.canLay_of_shaped se) (SeqAt.canLay_of_shaped sd) (PyProof.Rows.room_in_shaped sd hu) ⟨.bl _, H, I, rfl, q⟩
theorem op_notInT {X : Cx} (hu : X.A.units + 65 < cLine) : OpR X (compareOp .NotIn) (rInT X.K fun b => !b) := by
  intro pins s σ H x y v u Q I rx ry h
  obtain ⟨d, ds, hd, he, sd, se, q⟩ := h
  obtain ⟨as, r1⟩ := Dp.reads I d x v hd rx
  obtain ⟨bs, r2⟩ := Dp.reads I (.tuple ds) y u he ry
  exact SeqAt.notIn_tuple_reads r2 r1 (SeqAt.canLay_of_shaped se) (SeqAt.canLay_of_shaped sd) (PyProof.Rows.room_in_shaped sd hu) ⟨.bl _, H, I, rfl, q⟩
theorem inB_of {Γ : Wd} {f : Bool → Bool} : OpS Γ (rInAll Γ.K f) (fun x y s => ofO s ((inB s x y).map fun b => .bl (f b))) := by
  intro ρ F s H x y dx dy Q E g rx ry k
  obtain ⟨d, e, k⟩ := Po.ofO k
  obtain ⟨b, e1, e2⟩ := Option.map_eq_some_iff.mp e
  subst e2
  have fin : Q (.bl (f b)) H := k ρ F H _ LE.refl g (by simp only [Den])
  clear k e
  unfold inB at e1
  split at e1
  · rename_i z
    split at e1
    · rename_i w
      split at e1
      · rename_i c hc
        cases e1
        simp only [Den] at rx ry
        exact .inl ⟨c, z, by rw [rx.1, str_one hc], ry.1, fin⟩
      · cases e1
    · cases e1
  · split at e1
    · rename_i l hl
      split at e1
      · rename_i hf
        cases e1
        simp only [Bool.and_eq_true] at hf
        obtain ⟨a, xs, e3, q, t, _⟩ := g.sqQ ry hl
        have e4 := t.flat hf.2
        subst e4
        rw [← any_toVd hf.1 hf.2, ← rx.flat hf.1] at fin
        exact .inr (.inl ⟨a, _, e3, q, by rw [rx.flat hf.1]; exact flatV_toVd _, all_flat_map _, fin⟩)
      · split at e1
        · rename_i d' ds hd hds
          split at e1
          · rename_i hz
            cases e1
            obtain ⟨r1, r2⟩ := g.dp rx hd
            obtain ⟨r3, r4⟩ := g.dp ry hds
            exact .inr (.inr (.inl ⟨d', ds, r1, r3, shaped_of r2 hz.1, shaped_of r4 hz.2, fin⟩))
          · cases e1
        · rename_i d' ds hd hds
          split at e1
          · rename_i hz
            cases e1
            obtain ⟨r1, r2⟩ := g.dp rx hd
            obtain ⟨r3, r4⟩ := g.dp ry hds
            exact .inr (.inr (.inr ⟨d', ds, r1, r3, shaped_of r2 hz.1, shaped_of r4 hz.2, fin⟩))
          · cases e1
        · cases e1
    · cases e1
def dIn (x y : Dt) (s : Sto) : Out Dt := ofO s ((inB s x y).map fun b => .bl b)
def dNotIn (x y : Dt) (s : Sto) : Out Dt := ofO s ((inB s x y).map fun b => .bl (!b))
section
variable {J : Cn} {X : Cx} {W : WX} {a b c e : Expr} {es : List Expr} {fa fb fc : Ex} {fs : List Ex} {ft fu : Tx} {pos : Pos}
theorem c_in (hu : X.A.units + 65 < cLine) : CmpOk J X .In dIn :=
  ⟨_, OpR.or op_in_sign (OpR.or op_in_seq (OpR.or (op_inD hu) (op_inT hu))), fun ρ F s H x y dx dy Q E g rx ry k => inB_of (f := fun b => b) ρ F s H x y dx dy Q E g rx ry k⟩
theorem c_notIn (hu : X.A.units + 65 < cLine) : CmpOk J X .NotIn dNotIn :=
  ⟨_, OpR.or op_notIn_sign (OpR.or op_notIn_seq (OpR.or (op_notInD hu) (op_notInT hu))), fun ρ F s H x y dx dy Q E g rx ry k => inB_of (f := fun b => !b) ρ F s H x y dx dy Q E g rx ry k⟩
/-! ### displays -/
theorem evs_len : ∀ {fs : List Ex} {env : En} {s s' : Sto} {ds : List Dt}, evs fs env s = .ok ds s' → ds.length = fs.length
  | [], env, s, s', ds, h => by simp only [evs, Out.ok.injEq] at h; rw [← h.1]; rfl
  | f :: fs, env, s, s', ds, h => by
    simp only [evs, bnd] at h
    cases e1 : f env s with
    | ok d s1 =>
      rw [e1] at h
      simp only [] at h
      cases e2 : evs fs env s1 with
      | ok ds' s2 =>
        rw [e2] at h
        simp only [Out.ok.injEq] at h
        rw [← h.1, List.length_cons, List.length_cons, evs_len e2]
      | exc c s2 => rw [e2] at h; cases h
      | bad => rw [e2] at h; cases h
    | exc c s1 => rw [e1] at h; cases h
    | bad => rw [e1] at h; cases h
theorem as_nil : ASo J X W [] [] := PA.imp pa_nil fun σ H Q ⟨env, ρ, F, s, g, l, k⟩ => k ρ F H [] LE.refl g (by simp only [Dens])
theorem as_cons (ha : ES J X W e fa) (hr : ASo J X W es fs) (hs : starEach (e :: es) X.env = (false, eval e X.env) :: starEach es X.env := by rfl) : ASo J X W (e :: es) (fa :: fs) :=
  PA.imp (pa_cons ha hr hs) fun σ H Q ⟨env, ρ, F, s, g, l, k⟩ => ⟨env, ρ, F, s, g, l, Po.bind k fun x s1 ρ1 F1 H1 v e1 l1 g1 r1 k1 =>
    ⟨env, ρ1, F1, s1, g1, l.mono l1, Po.bind k1 fun xs s2 ρ2 F2 H2 vs e2 l2 g2 r2 k2 => k2 ρ2 F2 H2 _ LE.refl g2 (by simp only [Dens]; exact ⟨v, vs, rfl, Den.mono l2 _ _ r1, r2⟩)⟩⟩
def eTup (fs : List Ex) : Ex := fun env => bnd (evs fs env) fun ds s => .ok (.tup ds) s
theorem new_tup {Γ : Wd} {ρ : List Addr} {F H : Hp} {s : Sto} {ds : List Dt} {xs : List V} {p : Addr} {Q : VK} {E : Value → Hp → Prop} (g : G Γ ρ F s H) (t : Dens Γ ρ F ds xs) (hz : ds.length ≤ sizeLine) (hp : H p = none) (k : EPo Γ ρ F H Q E (.ok (.tup ds) s)) : Q (.ref p) (upd H p (.tup xs)) := by
  refine k ρ _ _ _ (LE.frz g hp) (g.frz _ hp) ?_
  simp only [Den]
  exact ⟨hz, p, xs, rfl, upd_same, Dens.monoD (LD.upd (g.fnone hp)) _ _ t⟩
theorem es_tup {x1} (h : ASo J X W es fs) (hz : fs.length ≤ sizeLine := by decide) : ES J X W (.Tuple es x1 pos) (eTup fs) :=
  PE.imp (pe_tup h) fun σ H Q ⟨env, ρ, F, s, g, l, k⟩ => ⟨env, ρ, F, s, g, l, Po.bind k fun ds s1 ρ1 F1 H1 xs e1 l1 g1 r1 k1 => by
    have hl : ds.length ≤ sizeLine := by rw [evs_len e1]; exact hz
    exact ⟨by rw [← r1.length]; exact hl, fun p hp => new_tup g1 r1 hl hp k1⟩⟩
/-- a new list: one that never changes, or one of the store -/
def nwF (ds : List Dt) (s : Sto) : Out Dt := .ok (.lst ds) s
def nwM (ds : List Dt) (s : Sto) : Out Dt := .ok (.obj s.length) (s ++ [.lst ds])
def IsNw (nw : List Dt → Sto → Out Dt) : Prop := nw = nwF ∨ nw = nwM
theorem new_lst {nw : List Dt → Sto → Out Dt} (n : IsNw nw) {Γ : Wd} {ρ : List Addr} {F H : Hp} {s : Sto} {ds : List Dt} {xs : List V} {p : Addr} {Q : VK} {E : Value → Hp → Prop} (g : G Γ ρ F s H) (t : Dens Γ ρ F ds xs) (hz : ds.length ≤ sizeLine) (hp : H p = none) (k : EPo Γ ρ F H Q E (nw ds s)) : Q (.ref p) (upd H p (.lst xs)) := by
  rcases n with n | n
  · subst n
    refine k ρ _ _ _ (LE.frz g hp) (g.frz _ hp) ?_
    simp only [Den]
    exact ⟨hz, p, xs, rfl, upd_same, Dens.monoD (LD.upd (g.fnone hp)) _ _ t⟩
  · subst n
    refine k (ρ ++ [p]) F _ _ (LE.new hp) (g.new hp ⟨hz, xs, upd_same, Dens.monoD LD.push _ _ t⟩) ?_
    simp only [Den]
    exact ⟨p, rfl, by rw [← g.len, List.getElem?_append_right (Nat.le_refl _), Nat.sub_self]; rfl⟩
theorem isF : IsNw nwF := .inl rfl
theorem isM : IsNw nwM := .inr rfl
def eLst (nw : List Dt → Sto → Out Dt) (fs : List Ex) : Ex := fun env => bnd (evs fs env) nw
theorem es_lst {nw : List Dt → Sto → Out Dt} (n : IsNw nw) (h : ASo J X W es fs) (hz : fs.length ≤ sizeLine := by decide) : ES J X W (.List es pos) (eLst nw fs) :=
  PE.imp (pe_lst h) fun σ H Q ⟨env, ρ, F, s, g, l, k⟩ => ⟨env, ρ, F, s, g, l, Po.bind k fun ds s1 ρ1 F1 H1 xs e1 l1 g1 r1 k1 => by
    have hl : ds.length ≤ sizeLine := by rw [evs_len e1]; exact hz
    exact ⟨by rw [← r1.length]; exact hl, fun p hp => new_lst n g1 r1 hl hp k1⟩⟩
/-! ### a[b] -/
theorem strOk_mem {z : Str} {c : Nat} (h : PyData.strOk z = true) (hc : c ∈ z.cps.toList) : c < 0x110000 := by
  unfold PyData.strOk at h
  rw [Array.all_eq_true'] at h
  have := h c (Array.mem_toList_iff.mp hc)
  simpa using this
theorem strOk_of {z : Str} (h : ∀ c ∈ z.cps.toList, c < 0x110000) : PyData.strOk z = true := by
  unfold PyData.strOk
  rw [Array.all_eq_true']
  intro c hc
  simpa using h c (Array.mem_toList_iff.mpr hc)
theorem sok_of {z : Str} (h : ∀ c ∈ z.cps.toList, c < 0x110000) (k : z.length ≤ 1000000) : sok z = true := by
  unfold sok
  rw [strOk_of h, Bool.true_and]
  exact decide_eq_true k
theorem sok_mem {z : Str} {c : Nat} (h : sok z = true) (hc : c ∈ z.cps.toList) : c < 0x110000 := by
  unfold sok at h
  simp only [Bool.and_eq_true] at h
  exact strOk_mem h.1 hc
theorem sok_le {z : Str} (h : sok z = true) : z.length ≤ 1000000 := by
  unfold sok at h
  simp only [Bool.and_eq_true, decide_eq_true_eq] at h
  exact h.2
/-- a text made of signs of another one, not longer -/
theorem sok_sub {z y : Str} (h : sok z = true) (k : ∀ c ∈ y.cps.toList, c ∈ z.cps.toList) (l : y.length ≤ z.length) : sok y = true :=
  sok_of (fun c hc => sok_mem h (k c hc)) (Nat.le_trans l (sok_le h))
theorem sok_sign {z : Str} {c : Nat} (h : sok z = true) (hc : c ∈ z.cps.toList) : sok ⟨#[c]⟩ = true :=
  sok_of (fun d hd => by simp at hd; subst hd; exact sok_mem h hc) (by show 1 ≤ 1000000; decide)
def dIx (x y : Dt) (s : Sto) : Out Dt := match y with
  | .int i => match x with
    | .str z => ofO s ((atI z.cps.toList i).map fun c => .str ⟨#[c]⟩)
    | x => ofO s ((asQ s x).bind fun l => atI l i)
  | _ => .bad
theorem Dens.atI {Γ : Wd} {ρ : List Addr} {F : Hp} {ds : List Dt} {xs : List V} {i : Int} {d : Dt} (t : Dens Γ ρ F ds xs) (h : L2.atI ds i = some d) : ∃ v, L2.atI xs i = some v ∧ Den Γ ρ F d v := by
  unfold L2.atI at h ⊢
  rw [← t.length]
  obtain ⟨j, e1, e2⟩ := Option.bind_eq_some_iff.mp h
  obtain ⟨v, e3, r⟩ := t.get e2
  exact ⟨v, by rw [e1]; exact e3, r⟩
theorem atI_mem {α : Type} {l : List α} {i : Int} {d : α} (h : L2.atI l i = some d) : d ∈ l := by
  obtain ⟨j, _, e, _⟩ := atI_get h
  exact List.mem_of_getElem? e
theorem dIx_ok {Γ : Wd} : OpS Γ (rIx Γ.K) dIx := by
  intro ρ F s H x y dx dy Q E g rx ry k
  cases dy with
  | int i =>
    simp only [Den] at ry
    unfold dIx at k
    have gen : ∀ l, asQ s dx = some l → EPo Γ ρ F H Q E (ofO s (L2.atI l i)) → rIx Γ.K x y H Q := fun l hl k => by
      obtain ⟨d, e, k⟩ := Po.ofO k
      obtain ⟨a, xs, e1, q, t, _⟩ := g.sqQ rx hl
      obtain ⟨v, e2, r⟩ := t.atI e
      have fin := k ρ F H v LE.refl g r
      rcases q with q | q
      · exact .inl ⟨a, xs, i, v, e1, ry, q, e2, fin⟩
      · exact .inr (.inl ⟨a, xs, i, v, e1, ry, q, e2, fin⟩)
    cases dx with
    | str z =>
      obtain ⟨d, e, k⟩ := Po.ofO k
      obtain ⟨c, e1, e2⟩ := Option.map_eq_some_iff.mp e
      subst e2
      simp only [Den] at rx
      exact .inr (.inr ⟨z, i, c, rx.1, ry, sok_len rx.2, e1, k ρ F H _ LE.refl g (by simp only [Den]; exact ⟨trivial, sok_sign rx.2 (atI_mem e1)⟩)⟩)
    | tup l => exact gen l rfl k
    | lst l => exact gen l rfl k
    | lsk l => exact gen l rfl k
    | obj j =>
      simp only [] at k
      cases e : asQ s (.obj j) with
      | none => rw [e] at k; exact False.elim k
      | some l => rw [e] at k; exact gen l e k
    | _ => exact False.elim k
  | _ => exact False.elim k
theorem es_ix (ha : ES J X W a fa) (hb : ES J X W b fb) (hs : PlainIx b := by exact fun _ _ => rfl) : ES J X W (.Subscript a b pos) (eOp dIx fa fb) :=
  PE.imp (pe_ix ix_seq ha hb hs) fun _ _ _ h => tE_op dIx_ok h
/-! ### slices -/
def evp : Option Ex → En → Sto → Out (Option Int)
  | none, _, s => .ok none s
  | some f, env, s => bnd (f env) (fun d s => match d with | .int i => .ok (some i) s | _ => .bad) s
def tP (Γ : Wd) (W : WX) (f : Option Ex) : TO := fun σ H Q => ∃ env ρ F s, G Γ ρ F s H ∧ Sl Γ ρ F env σ ∧ Po Γ (fun _ _ (a b : Option Int) => a = b) ρ F H Q (fun c H' => W c none σ H') (evp f env s)
abbrev OS (J : Cn) (X : Cx) (W : WX) (e : Option Expr) (f : Option Ex) : Prop := PO X e (tP (wd J X) W f)
theorem PO.imp {X : Cx} {e : Option Expr} {t t' : TO} (h : PO X e t) (k : ∀ σ H Q, t' σ H Q → t σ H Q) : PO X e t' := ⟨fun pins s σ H Q I q => h.run pins s σ H Q I (k σ H Q q)⟩
theorem os_none : OS J X W none none := PO.imp po_none fun σ H Q ⟨env, ρ, F, s, g, l, k⟩ => k ρ F H none LE.refl g rfl
theorem os_some (h : ES J X W e fa) : OS J X W (some e) (some fa) := PO.imp (po_some h) fun σ H Q ⟨env, ρ, F, s, g, l, k⟩ => ⟨env, ρ, F, s, g, l, Po.bind k fun x s1 ρ1 F1 H1 v e1 l1 g1 r1 k1 => by
  cases x with
  | int i => simp only [Den] at r1; exact ⟨i, r1, k1 ρ1 F1 H1 _ LE.refl g1 rfl⟩
  | _ => exact False.elim k1⟩
def cutD {α : Type} (xs : List α) (lo hi : Option Int) : List α := (xs.drop (HT.sIx xs.length 0 lo)).take (HT.sIx xs.length xs.length hi - HT.sIx xs.length 0 lo)
theorem cutD_length {α : Type} (xs : List α) (lo hi : Option Int) : (cutD xs lo hi).length ≤ xs.length := by
  unfold cutD
  rw [List.length_take, List.length_drop]
  omega
theorem Dens.cut {Γ : Wd} {ρ : List Addr} {F : Hp} {ds : List Dt} {xs : List V} (t : Dens Γ ρ F ds xs) (lo hi : Option Int) : Dens Γ ρ F (cutD ds lo hi) (cutV xs lo hi) := by
  unfold cutD cutV
  rw [← t.length]
  exact Dens.take _ (Dens.drop _ t)
theorem sok_cut {z : Str} (h : sok z = true) (lo hi : Option Int) : sok (cutS z lo hi) = true :=
  sok_sub h (fun c hc => by
    unfold cutS at hc
    exact List.mem_of_mem_drop (List.mem_of_mem_take (by simpa using hc))) (cutS_length z lo hi)
def dSl (nw : List Dt → Sto → Out Dt) (x : Dt) (lo hi : Option Int) (s : Sto) : Out Dt := match x with
  | .str z => .ok (.str (cutS z lo hi)) s
  | .tup l => .ok (.tup (cutD l lo hi)) s
  | x => match asL s x with
    | some l => nw (cutD l lo hi) s
    | none => .bad
def eSl (nw : List Dt → Sto → Out Dt) (fa : Ex) (lo hi : Option Ex) : Ex := fun env => bnd (fa env) fun x => bnd (evp lo env) fun l => bnd (evp hi env) fun u => dSl nw x l u
theorem cut_whole {α : Type} {xs : List α} {lo hi : Option Int} (h : HT.sIx xs.length 0 lo = 0 ∧ HT.sIx xs.length xs.length hi = xs.length) : cutD xs lo hi = xs := by
  unfold cutD
  rw [h.1, h.2, List.drop_zero, Nat.sub_zero, List.take_length]
theorem dSl_ok {Γ : Wd} {nw : List Dt → Sto → Out Dt} (n : IsNw nw) {ρ : List Addr} {F H : Hp} {s : Sto} {x : V} {d : Dt} {lo hi : Option Int} {Q : VK} {E : Value → Hp → Prop} (g : G Γ ρ F s H) (r : Den Γ ρ F d x) (k : EPo Γ ρ F H Q E (dSl nw d lo hi s)) :
    rSlL Γ.K x lo hi H Q ∨ rSlA Γ.K x lo hi H Q ∨ rSlS x lo hi H Q := by
  have gen : ∀ l, asL s d = some l → EPo Γ ρ F H Q E (nw (cutD l lo hi) s) → rSlL Γ.K x lo hi H Q := fun l hl k => by
    obtain ⟨a, xs, e1, q, t, z⟩ := g.sqL r hl
    exact ⟨a, xs, e1, q, fun p hp => new_lst n g (t.cut lo hi) (Nat.le_trans (cutD_length _ _ _) z) hp k⟩
  cases d with
  | str z =>
    simp only [Den] at r
    exact .inr (.inr ⟨z, r.1, sok_len r.2, k ρ F H _ LE.refl g (by simp only [Den]; exact ⟨trivial, sok_cut r.2 lo hi⟩)⟩)
  | tup l =>
    obtain ⟨a, xs, e1, q, t, z⟩ := g.sqT r (l := l) rfl
    refine .inr (.inl ⟨a, xs, e1, q, fun hw => ?_, fun _ p hp => new_tup g (t.cut lo hi) (Nat.le_trans (cutD_length _ _ _) z) hp k⟩)
    rw [← t.length] at hw
    have e : dSl nw (.tup l) lo hi s = .ok (.tup l) s := by show Out.ok (Dt.tup (cutD l lo hi)) s = _; rw [cut_whole hw]
    rw [e] at k
    exact k ρ F H _ LE.refl g (by rw [← e1]; exact r)
  | lst l => exact .inl (gen l rfl k)
  | lsk l => exact .inl (gen l rfl k)
  | obj j =>
    cases e : asL s (.obj j) with
    | none => simp only [dSl, e] at k; exact False.elim k
    | some l => simp only [dSl, e] at k; exact .inl (gen l e k)
  | _ => exact False.elim k
theorem es_sl {nw : List Dt → Sto → Out Dt} (n : IsNw nw) {lo hi : Option Expr} {fl fh : Option Ex} {p2 : Pos} (ha : ES J X W a fa) (hl : OS J X W lo fl) (hh : OS J X W hi fh) : ES J X W (.Subscript a (.Slice lo hi none p2) pos) (eSl nw fa fl fh) :=
  PE.imp (pe_slice (SlR.or sl_list (SlR.or sl_tupA sl_str)) ha hl hh) fun σ H Q ⟨env, ρ, F, s, g, l, k⟩ => ⟨env, ρ, F, s, g, l, Po.bind k fun x s1 ρ1 F1 H1 v e1 l1 g1 r1 k1 =>
    ⟨env, ρ1, F1, s1, g1, l.mono l1, Po.bind k1 fun lo s2 ρ2 F2 H2 lo' e2 l2 g2 r2 k2 =>
      ⟨env, ρ2, F2, s2, g2, l.mono (l1.trans l2), Po.bind k2 fun hi s3 ρ3 F3 H3 hi' e3 l3 g3 r3 k3 => by
        subst r2; subst r3
        exact dSl_ok n g3 (Den.mono (l2.trans l3) _ _ r1) k3⟩⟩⟩
end
end Pd
namespace Pd
open PySem L2
section
variable {J : Cn} {X : Cx} {W : WX} {a b c e e2 : Expr} {es : List Expr} {fa fb fc fe : Ex} {fs : List Ex} {ft fu : Tx} {pos p : Pos}
/-! ### built-ins by their names -/
def C1S (Γ : Wd) (r : List V → Hp → VK → Prop) (op : Dt → Sto → Out Dt) : Prop := ∀ ρ F s H x dx Q E, G Γ ρ F s H → Den Γ ρ F dx x → EPo Γ ρ F H Q E (op dx s) → r [x] H Q
def C2S (Γ : Wd) (r : List V → Hp → VK → Prop) (op : Dt → Dt → Sto → Out Dt) : Prop := ∀ ρ F s H x y dx dy Q E, G Γ ρ F s H → Den Γ ρ F dx x → Den Γ ρ F dy y → EPo Γ ρ F H Q E (op dx dy s) → r [x, y] H Q
/-- a built-in of one argument that is known -/
def B1 (J : Cn) (X : Cx) (v : Value) (op : Dt → Sto → Out Dt) : Prop := ∃ r, CallR X v r ∧ C1S (wd J X) r op
def B2 (J : Cn) (X : Cx) (v : Value) (op : Dt → Dt → Sto → Out Dt) : Prop := ∃ r, CallR X v r ∧ C2S (wd J X) r op
theorem es_b1 {x : Str} {id : String} {op : Dt → Sto → Out Dt} (h : B1 J X (.builtin id) op) (hg : Gl X x) (hm : X.mg x = none) (hv : bootBuiltins x = some (.builtin id)) (ha : ES J X W e fe) (hn : x ≠ "__name__" := by decide) (hdb : (x == ("__debug__" : Str)) = false := by decide)
    (he : starEach (e :: []) X.env = (false, eval e X.env) :: starEach [] X.env := by rfl) : ES J X W (.Call (.Name x p) [e] [] pos) (eUn op fe) := by
  obtain ⟨r, hc, ho⟩ := h
  exact PE.imp (pe_callB hc hg hm hv (pa_cons ha pa_nil he) hn hdb he rfl) fun σ H Q ⟨env, ρ, F, s, g, l, k⟩ => ⟨env, ρ, F, s, g, l, Po.bind k fun x s1 ρ1 F1 H1 v e1 l1 g1 r1 k1 => ho ρ1 F1 s1 H1 v x Q _ g1 r1 k1⟩
theorem es_y1 {x : Str} {id : String} {op : Dt → Sto → Out Dt} (h : B1 J X (.type id) op) (hg : Gl X x) (hm : X.mg x = none) (hv : bootBuiltins x = some (.type id)) (ha : ES J X W e fe) (hn : x ≠ "__name__" := by decide) (hdb : (x == ("__debug__" : Str)) = false := by decide)
    (he : starEach (e :: []) X.env = (false, eval e X.env) :: starEach [] X.env := by rfl) : ES J X W (.Call (.Name x p) [e] [] pos) (eUn op fe) := by
  obtain ⟨r, hc, ho⟩ := h
  exact PE.imp (pe_callTy hc hg hm hv (pa_cons ha pa_nil he) hn hdb he rfl) fun σ H Q ⟨env, ρ, F, s, g, l, k⟩ => ⟨env, ρ, F, s, g, l, Po.bind k fun x s1 ρ1 F1 H1 v e1 l1 g1 r1 k1 => ho ρ1 F1 s1 H1 v x Q _ g1 r1 k1⟩
theorem es_b2 {x : Str} {id : String} {op : Dt → Dt → Sto → Out Dt} (h : B2 J X (.builtin id) op) (hg : Gl X x) (hm : X.mg x = none) (hv : bootBuiltins x = some (.builtin id)) (ha : ES J X W a fa) (hb : ES J X W b fb) (hn : x ≠ "__name__" := by decide) (hdb : (x == ("__debug__" : Str)) = false := by decide)
    (he : starEach [a, b] X.env = [(false, eval a X.env), (false, eval b X.env)] := by rfl) (he2 : starEach [b] X.env = [(false, eval b X.env)] := by rfl) : ES J X W (.Call (.Name x p) [a, b] [] pos) (eOp op fa fb) := by
  obtain ⟨r, hc, ho⟩ := h
  have h1 : starEach (a :: [b]) X.env = (false, eval a X.env) :: starEach [b] X.env := by rw [he2]; exact he
  have h2 : starEach (b :: []) X.env = (false, eval b X.env) :: starEach [] X.env := he2
  have h3 : (backTo pos (starEach [b] X.env)).any (·.1) = false := by rw [he2]; rfl
  exact PE.imp (pe_callB hc hg hm hv (pa_cons ha (pa_cons hb pa_nil h2) h1) hn hdb h1 h3) fun σ H Q ⟨env, ρ, F, s, g, l, k⟩ => ⟨env, ρ, F, s, g, l, Po.bind k fun x s1 ρ1 F1 H1 v e1 l1 g1 r1 k1 =>
    ⟨env, ρ1, F1, s1, g1, l.mono l1, Po.bind k1 fun y s2 ρ2 F2 H2 u e2 l2 g2 r2 k2 => ho ρ2 F2 s2 H2 v u x y Q _ g2 (Den.mono l2 _ _ r1) r2 k2⟩⟩
/-- len -/
def lenD (s : Sto) (d : Dt) : Option Nat := match d with
  | .str x => some x.length
  | .obj i => match s[i]? with
    | some (.lst l) => some l.length
    | some (.dic kvs) => some kvs.length
    | _ => none
  | d => (asQ s d).map (·.length)
def dLen (d : Dt) (s : Sto) : Out Dt := ofO s ((lenD s d).map fun (n : Nat) => .int n)
theorem len_dict {X : Cx} : CallR X (.builtin "len") (fun xs H Q => ∃ a kvs, xs = [.ref a] ∧ Rd H a (.dK kvs) ∧ Q (.int kvs.length) H) := by
  intro pins s σ H xs us Q I r h
  obtain ⟨a, kvs, e, hd, q⟩ := h
  subst e
  obtain ⟨u, e, ru⟩ := vals1 r
  subst e
  obtain rfl : u = Value.ref a := ru
  exact d_len I hd fun t s' I' => ⟨.int kvs.length, H, I', ⟨t, rfl⟩, q⟩
theorem b_len : B1 J X (.builtin "len") dLen := ⟨_, CallR.or call_len len_dict, fun ρ F s H x dx Q E g rx k => by
  obtain ⟨d, e, k⟩ := Po.ofO k
  obtain ⟨n, e1, e2⟩ := Option.map_eq_some_iff.mp e
  subst e2
  have fin : Q (.int n) H := k ρ F H _ LE.refl g (by simp only [Den])
  have gen : ∀ l, asQ s dx = some l → n = l.length → (∃ x' n', [x] = [x'] ∧ LenV X.K x' H n' ∧ Q (.int n') H) := fun l hl hn => by
    obtain ⟨a, xs, e1, q, t, _⟩ := g.sqQ rx hl
    subst e1
    refine ⟨_, n, rfl, ?_, fin⟩
    rw [hn, t.length]
    rcases q with q | q
    · exact .inl ⟨xs, q, rfl⟩
    · exact .inr ⟨xs, q, rfl⟩
  cases dx with
  | str z =>
    simp only [Den] at rx
    simp only [lenD, Option.some.injEq] at e1
    obtain ⟨rx, hk⟩ := rx
    subst rx; subst e1
    exact .inl ⟨_, _, rfl, ⟨sok_len hk, rfl⟩, fin⟩
  | tup l => simp [lenD, asQ] at e1; exact .inl (gen l rfl e1.symm)
  | lst l => simp [lenD, asQ, asL] at e1; exact .inl (gen l rfl e1.symm)
  | lsk l => simp [lenD, asQ, asL] at e1; exact .inl (gen l rfl e1.symm)
  | obj i =>
    simp only [lenD] at e1
    split at e1
    · rename_i l hs
      cases e1
      exact .inl (gen l (by simp only [asQ, asL, hs]) rfl)
    · rename_i l hs
      cases e1
      simp only [Den] at rx
      obtain ⟨a, e2, q⟩ := rx
      subst e2
      obtain ⟨z, vs, hx, t⟩ := g.at_ i a _ q hs
      exact .inr ⟨a, vs, rfl, .inl hx, by rw [← t.length]; exact fin⟩
    · cases e1
  | _ => simp [lenD, asQ, asL] at e1⟩
/-- ord -/
def dOrd (d : Dt) (s : Sto) : Out Dt := match d with
  | .str x => match x.cps.toList with
    | [c] => .ok (.int c) s
    | _ => .bad
  | _ => .bad
theorem b_ord : B1 J X (.builtin "ord") dOrd := ⟨_, call_ord, fun ρ F s H x dx Q E g rx k => by
  cases dx with
  | str z =>
    simp only [Den] at rx
    simp only [dOrd] at k
    split at k
    · rename_i c hc
      obtain ⟨rx, hk⟩ := rx
      have e := str_one hc
      subst e
      exact ⟨_, by rw [rx], rfl, k ρ F H _ LE.refl g (by simp only [Den]; rfl)⟩
    · exact False.elim k
  | _ => exact False.elim k⟩
/-- all, any of a list of truths -/
def asB : List Dt → Option (List Bool)
  | [] => some []
  | .bl b :: r => (asB r).map (b :: ·)
  | _ => none
theorem Dens.bools {Γ : Wd} {ρ : List Addr} {F : Hp} : ∀ {l : List Dt} {xs : List V} {bs : List Bool}, Dens Γ ρ F l xs → asB l = some bs → xs = bs.map V.bl
  | [], xs, bs, h, e => by simp only [Dens] at h; simp only [asB, Option.some.injEq] at e; subst e; exact h
  | d :: l, xs, bs, h, e => by
    simp only [Dens] at h
    obtain ⟨v, r, e1, q, t⟩ := h
    cases d with
    | bl b =>
      simp only [asB, Option.map_eq_some_iff] at e
      obtain ⟨bs', e2, e3⟩ := e
      simp only [Den] at q
      subst e3; subst e1; subst q
      rw [Dens.bools t e2]; rfl
    | _ => simp [asB] at e
def dAll (d : Dt) (s : Sto) : Out Dt := ofO s (((asL s d).bind asB).map fun bs => .bl (bs.all id))
def dAny (d : Dt) (s : Sto) : Out Dt := ofO s (((asL s d).bind asB).map fun bs => .bl (bs.any id))
theorem b_all (hc : X.calm = true) : B1 J X (.builtin "all") dAll := ⟨_, cr_all hc, fun ρ F s H x dx Q E g rx k => by
  obtain ⟨d, e, k⟩ := Po.ofO k
  obtain ⟨bs, e1, e2⟩ := Option.map_eq_some_iff.mp e
  obtain ⟨l, e3, e4⟩ := Option.bind_eq_some_iff.mp e1
  subst e2
  obtain ⟨a, xs, e5, q, t, _⟩ := g.sqL rx e3
  subst e5
  have e6 := t.bools e4
  subst e6
  exact ⟨a, bs, rfl, q, k ρ F H _ LE.refl g (by simp only [Den])⟩⟩
theorem b_any (hc : X.calm = true) : B1 J X (.builtin "any") dAny := ⟨_, cr_any hc, fun ρ F s H x dx Q E g rx k => by
  obtain ⟨d, e, k⟩ := Po.ofO k
  obtain ⟨bs, e1, e2⟩ := Option.map_eq_some_iff.mp e
  obtain ⟨l, e3, e4⟩ := Option.bind_eq_some_iff.mp e1
  subst e2
  obtain ⟨a, xs, e5, q, t, _⟩ := g.sqL rx e3
  subst e5
  have e6 := t.bools e4
  subst e6
  exact ⟨a, bs, rfl, q, k ρ F H _ LE.refl g (by simp only [Den])⟩⟩
def dMax := iOp (fun i j => .int (if j > i then j else i)) fun _ _ => true
def dMin := iOp (fun i j => .int (if j < i then j else i)) fun _ _ => true
theorem b_max (hc : X.calm = true) : B2 J X (.builtin "max") dMax := ⟨_, call_max2 hc, fun ρ F s H x y dx dy Q E g rx ry k => by
  obtain ⟨i, j, e1, e2, q⟩ := iOp_all (Γ := wd J X) (gv := fun i j => .int (if j > i then j else i)) (fun _ _ _ _ => by simp only [Den]) ρ F s H x y dx dy Q E g rx ry k
  subst e1; subst e2
  exact ⟨i, j, rfl, q⟩⟩
theorem b_min (hc : X.calm = true) : B2 J X (.builtin "min") dMin := ⟨_, call_min2 hc, fun ρ F s H x y dx dy Q E g rx ry k => by
  obtain ⟨i, j, e1, e2, q⟩ := iOp_all (Γ := wd J X) (gv := fun i j => .int (if j < i then j else i)) (fun _ _ _ _ => by simp only [Den]) ρ F s H x y dx dy Q E g rx ry k
  subst e1; subst e2
  exact ⟨i, j, rfl, q⟩⟩
def dInt (d : Dt) (s : Sto) : Out Dt := match d with
  | .int i => .ok (.int i) s
  | .bl b => .ok (.int (if b then 1 else 0)) s
  | _ => .bad
theorem b_int : B1 J X (.type "int") dInt := ⟨_, call_int1, fun ρ F s H x dx Q E g rx k => by
  cases dx with
  | int i => simp only [Den] at rx; subst rx; exact .inl ⟨i, rfl, k ρ F H _ LE.refl g (by simp only [Den])⟩
  | bl i => simp only [Den] at rx; subst rx; exact .inr ⟨i, rfl, k ρ F H _ LE.refl g (by simp only [Den])⟩
  | _ => exact False.elim k⟩
/-- list(x), tuple(x) of a list or a tuple -/
def dList (nw : List Dt → Sto → Out Dt) (d : Dt) (s : Sto) : Out Dt := match asQ s d with
  | some l => nw l s
  | none => .bad
theorem b_list {nw : List Dt → Sto → Out Dt} (n : IsNw nw) : B1 J X (.type "list") (dList nw) := ⟨_, call_list_of, fun ρ F s H x dx Q E g rx k => by
  unfold dList at k
  split at k
  · rename_i l hl
    obtain ⟨a, xs, e5, q, t, z⟩ := g.sqQ rx hl
    subst e5
    exact ⟨a, xs, rfl, q, fun p hp => new_lst n g t z hp k⟩
  · exact False.elim k⟩
def dTuple (d : Dt) (s : Sto) : Out Dt := ofO s ((asQ s d).map .tup)
theorem b_tuple : B1 J X (.type "tuple") dTuple := ⟨_, call_tuple_of, fun ρ F s H x dx Q E g rx k => by
  obtain ⟨d, e, k⟩ := Po.ofO k
  obtain ⟨l, e1, e2⟩ := Option.map_eq_some_iff.mp e
  subst e2
  have gen : asL s dx = some l → ∃ p ys, [x] = [V.ref p] ∧ ((SqL X.K H p ys ∧ ∀ l, H l = none → Q (.ref l) (upd H l (.tup ys))) ∨ (SqT X.K H p ys ∧ Q (.ref p) H)) := fun hl => by
    obtain ⟨a, xs, e5, q, t, z⟩ := g.sqL rx hl
    subst e5
    exact ⟨a, xs, rfl, .inl ⟨q, fun p hp => new_tup g t z hp k⟩⟩
  cases dx with
  | tup l' =>
    simp only [asQ, Option.some.injEq] at e1
    subst e1
    obtain ⟨a, xs, e6, q, t, z⟩ := g.sqT rx (l := l') rfl
    have fin := k ρ F H x LE.refl g rx
    subst e6
    exact ⟨a, xs, rfl, .inr ⟨q, fin⟩⟩
  | _ => exact gen e1⟩
end
end Pd
namespace Pd
open PySem L2
/-! ### statements -/
def sBnd {α : Type} (m : Sto → Out α) (env : En) (k : α → Sto → Res) (s : Sto) : Res := match m s with
  | .ok a s' => k a s'
  | .exc c s' => .exc c env s'
  | .bad => .bad
theorem FPo.bind {α β : Type} {Γ : Wd} {W : WX} {R1 : List Addr → Hp → α → β → Prop} {ρ : List Addr} {F H : Hp} {D : Ends} {Q1 : β → Hp → Prop} {m : Sto → Out α} {k : α → Sto → Res} {env : En} {σ : St} {s : Sto}
    (h : FPo Γ W ρ F H D (sBnd m env k s)) (sl : Sl Γ ρ F env σ) (hk : ∀ a s' ρ' F' H' v, m s = .ok a s' → LE ρ F H ρ' F' H' → G Γ ρ' F' s' H' → R1 ρ' F' a v → FPo Γ W ρ' F' H' D (k a s') → Q1 v H') : Po Γ R1 ρ F H Q1 (fun c H' => W c none σ H') (m s) := by
  unfold sBnd at h
  cases e : m s with
  | ok a s' =>
    rw [e] at h
    exact fun ρ' F' H' v l g r => hk a s' ρ' F' H' v e l g r (h.le l)
  | exc c s' =>
    rw [e] at h
    exact fun ρ' F' H' C l g r => h ρ' F' H' σ C l g (sl.mono l) r
  | bad => rw [e] at h; exact h
section
variable {J : Cn} {X : Cx} {W : WX} {a b c e e2 o : Expr} {es : List Expr} {fa fb fc fe fo : Ex} {fs : List Ex} {ft fu : Tx} {pos p : Pos} {st : Stmt} {rest : List Stmt} {f1 f2 : Sx}
def sNext : Sx := fun env s => .fl (.nx env) s
def sSeq (f g : Sx) : Sx := fun env s => match f env s with
  | .fl (.nx e) s' => g e s'
  | r => r
theorem ss_nil : SSs J X W [] sNext := PSs.imp pss_nil fun D σ H ⟨env, ρ, F, s, g, l, k⟩ => k ρ F H σ LE.refl g l
theorem ss_pass : SS J X W (.Pass pos) sNext := PS.imp ps_pass fun D σ H ⟨env, ρ, F, s, g, l, k⟩ => k ρ F H σ LE.refl g l
theorem ss_one (h : SS J X W st f1) : SSs J X W [st] f1 := pss_one h
theorem ss_cons (h1 : SS J X W st f1) (h2 : SSs J X W rest f2) : SSs J X W (st :: rest) (sSeq f1 f2) :=
  PSs.imp (pss_cons h1 h2) fun D σ H ⟨env, ρ, F, s, g, l, k⟩ => by
    refine ⟨env, ρ, F, s, g, l, ?_⟩
    unfold sSeq at k
    cases e : f1 env s with
    | fl f s1 =>
      rw [e] at k
      cases f with
      | nx e1 => exact fun ρ' F' H' σ' l' g' sl' => ⟨e1, ρ', F', s1, g', sl', k.le l'⟩
      | rt d => exact k
      | bk d => exact k
      | ct d => exact k
    | exc c e1 s1 => rw [e] at k; exact k
    | bad => rw [e] at k; exact k
def sBreak : Sx := fun env s => .fl (.bk env) s
theorem ss_break : SS J X W (.Break pos) sBreak := PS.imp ps_break fun D σ H ⟨env, ρ, F, s, g, l, k⟩ => k ρ F H σ LE.refl g l
def sCont : Sx := fun env s => .fl (.ct env) s
theorem ss_cont : SS J X W (.Continue pos) sCont := PS.imp ps_continue fun D σ H ⟨env, ρ, F, s, g, l, k⟩ => k ρ F H σ LE.refl g l
def sExpr (f : Ex) : Sx := fun env => sBnd (f env) env fun _ s => .fl (.nx env) s
theorem ss_expr (h : ES J X W e fe) (hs : swapsWith e none pos.line X.env = pure false := by rfl) : SS J X W (.Expr e pos) (sExpr fe) :=
  PS.imp (ps_expr h hs) fun D σ H ⟨env, ρ, F, s, g, l, k⟩ => ⟨env, ρ, F, s, g, l, FPo.bind k l fun d s1 ρ1 F1 H1 v e1 l1 g1 r1 k1 => k1 ρ1 F1 H1 σ LE.refl g1 (l.mono l1)⟩
def sRet (f : Ex) : Sx := fun env => sBnd (f env) env fun d s => .fl (.rt d) s
theorem ss_ret (h : ES J X W e fe) : SS J X W (.Return (some e) pos) (sRet fe) :=
  PS.imp (ps_ret h) fun D σ H ⟨env, ρ, F, s, g, l, k⟩ => ⟨env, ρ, F, s, g, l, FPo.bind k l fun d s1 ρ1 F1 H1 v e1 l1 g1 r1 k1 => k1 ρ1 F1 H1 v LE.refl g1 r1⟩
def sIf (t : Tx) (f g : Sx) : Sx := fun env => sBnd (t env) env fun c s => if c = true then f env s else g env s
theorem ss_if {x y : List Stmt} (hc : TSo J X W c ft) (ha : SSs J X W x f1) (hb : SSs J X W y f2) : SS J X W (.If c x y pos) (sIf ft f1 f2) :=
  PS.imp (ps_if hc ha hb) fun D σ H ⟨env, ρ, F, s, g, l, k⟩ => ⟨env, ρ, F, s, g, l, FPo.bind k l fun d s1 ρ1 F1 H1 v e1 l1 g1 r1 k1 => by
    subst r1
    cases d with
    | true => exact ⟨env, ρ1, F1, s1, g1, l.mono l1, k1⟩
    | false => exact ⟨env, ρ1, F1, s1, g1, l.mono l1, k1⟩⟩
/-! targets -/
abbrev Tg := Dt → En → Sto → Option En
def tG (Γ : Wd) (is : List Nat) (tg : Tg) : TG := fun v σ H Q => ∃ env ρ F s d env', G Γ ρ F s H ∧ Sl Γ ρ F env σ ∧ Den Γ ρ F d v ∧ tg d env s = some env' ∧
  ∀ σ', Sl Γ ρ F env' σ' → σ'.length = σ.length → (∀ j, j ∉ is → σ'[j]? = σ[j]?) → Q σ' H
abbrev GS (J : Cn) (X : Cx) (tgt : Expr) (is : List Nat) (tg : Tg) : Prop := PG X tgt (tG (wd J X) is tg)
theorem PG.imp {X : Cx} {e : Expr} {t t' : TG} (h : PG X e t) (k : ∀ v σ H Q, t' v σ H Q → t v σ H Q) : PG X e t' := ⟨fun pins s σ H v u Q I r q => h.run pins s σ H v u Q I r (k v σ H Q q)⟩
def gN (i : Nat) : Tg := fun d env _ => some (env.set i (some d))
theorem gs_name {i : Nat} (h : PG X e (gName i)) : GS J X e [i] (gN i) := PG.imp h fun v σ H Q ⟨env, ρ, F, s, d, env', g, l, r, e, k⟩ => by
  unfold gN at e
  cases e
  exact k _ (l.set r i) (by rw [List.length_set]) fun j hj => by rw [List.getElem?_set_ne (fun z => hj (by rw [z]; exact List.mem_singleton_self _))]
def setAll : List Nat → List Dt → En → Option En
  | [], [], env => some env
  | i :: is, d :: ds, env => setAll is ds (env.set i (some d))
  | _, _, _ => none
def tGs (Γ : Wd) (is : List Nat) : TGs := fun vs σ H Q => ∃ env ρ F s ds env', G Γ ρ F s H ∧ Sl Γ ρ F env σ ∧ Dens Γ ρ F ds vs ∧ setAll is ds env = some env' ∧
  ∀ σ', Sl Γ ρ F env' σ' → σ'.length = σ.length → (∀ j, j ∉ is → σ'[j]? = σ[j]?) → Q σ' H
abbrev GSs (J : Cn) (X : Cx) (tgs : List Expr) (is : List Nat) : Prop := PGs X tgs (tGs (wd J X) is)
theorem PGs.imp {X : Cx} {e : List Expr} {t t' : TGs} (h : PGs X e t) (k : ∀ v σ H Q, t' v σ H Q → t v σ H Q) : PGs X e t' := ⟨fun pins s σ H v u Q I r q => h.run pins s σ H v u Q I r (k v σ H Q q)⟩
theorem gss_nil : GSs J X [] [] := PGs.imp pgs_nil fun v σ H Q ⟨env, ρ, F, s, ds, env', g, l, r, e, k⟩ => by
  cases ds with
  | nil =>
    simp only [Dens] at r
    simp only [setAll, Option.some.injEq] at e
    subst e
    exact ⟨r, k σ l rfl fun _ _ => rfl⟩
  | cons d ds => simp [setAll] at e
theorem gss_cons {i : Nat} {is : List Nat} (h : PG X e (gName i)) (hr : GSs J X es is) (hs : (assignEach (e :: es) X.env).map (·.2) = assign e X.env :: (assignEach es X.env).map (·.2) := by rfl) : GSs J X (e :: es) (i :: is) :=
  PGs.imp (pgs_cons h hr hs) fun v σ H Q ⟨env, ρ, F, s, ds, env', g, l, r, e, k⟩ => by
    cases ds with
    | nil => simp [setAll] at e
    | cons d ds =>
      simp only [Dens] at r
      obtain ⟨v', vr, e1, q, t⟩ := r
      simp only [setAll] at e
      refine ⟨v', vr, e1, ?_⟩
      refine ⟨_, ρ, F, s, ds, env', g, l.set q i, t, e, fun σ' l' z1 z2 => k σ' l' (by rw [z1, List.length_set]) fun j hj => ?_⟩
      rw [z2 j (fun z => hj (List.mem_cons_of_mem _ z)), List.getElem?_set_ne (fun z => hj (by rw [z]; exact List.mem_cons_self))]
def gT (is : List Nat) : Tg := fun d env _ => match d with
  | .tup l => setAll is l env
  | _ => none
theorem setAll_len : ∀ {is : List Nat} {ds : List Dt} {env env' : En}, setAll is ds env = some env' → ds.length = is.length
  | [], [], env, env', h => rfl
  | i :: is, d :: ds, env, env', h => by simp only [setAll] at h; rw [List.length_cons, List.length_cons, setAll_len h]
  | [], d :: ds, env, env', h => by simp [setAll] at h
  | i :: is, [], env, env', h => by simp [setAll] at h
theorem gs_tup {is : List Nat} {k : Nat} (hc : X.calm = true) (h : GSs J X es is) (hn : (assignEach es X.env).length = is.length := by rfl) (hst : (assignEach es X.env).findIdx? (·.1) = none := by rfl) : GS J X (.Tuple es k pos) is (gT is) :=
  PG.imp (pg_tup hc h hn hst) fun v σ H Q ⟨env, ρ, F, s, d, env', g, l, r, e, q⟩ => by
    cases d with
    | tup ds =>
      simp only [gT] at e
      obtain ⟨x, xs, e1, q1, t, _⟩ := g.sqT r (l := ds) rfl
      exact ⟨x, xs, e1, q1, by rw [← t.length, setAll_len e], env, ρ, F, s, ds, env', g, l, t, e, q⟩
    | _ => simp [gT] at e
/-- target = e -/
def sAsg (f : Ex) (tg : Tg) : Sx := fun env => sBnd (f env) env fun d s => match tg d env s with
  | some e => .fl (.nx e) s
  | none => .bad
theorem asg_of {Γ : Wd} {is : List Nat} {tg : Tg} {D : Ends} {σ : St} {H : Hp} (h : tS Γ W (sAsg fe tg) D σ H) : tAsg (tE Γ W fe) (tG Γ is tg) D σ H := by
  obtain ⟨env, ρ, F, s, g, l, k⟩ := h
  refine ⟨env, ρ, F, s, g, l, FPo.bind k l fun d s1 ρ1 F1 H1 v e1 l1 g1 r1 k1 => ?_⟩
  cases e : tg d env s1 with
  | none => rw [e] at k1; exact False.elim k1
  | some env' =>
    rw [e] at k1
    exact ⟨env, ρ1, F1, s1, d, env', g1, l.mono l1, r1, e, fun σ' sl _ _ => k1 ρ1 F1 H1 σ' LE.refl g1 sl⟩
theorem ss_asg {tgt : Expr} {is : List Nat} {tg : Tg} (he : ES J X W e fe) (hg : GS J X tgt is tg) (hs : swapsWithSole [tgt] e pos.line X.env = pure false := by rfl) (hw : swappedStores [tgt] e X.env = pure none := by rfl)
    (h1 : (assignEach [tgt] X.env).map (·.2) = [assign tgt X.env] := by rfl) : SS J X W (.Assign [tgt] e pos) (sAsg fe tg) := PS.imp (ps_asg he hg hs hw h1) fun D σ H h => asg_of h
/-! attributes -/
theorem zip_lookup : ∀ {names : List Str} {vs : List V} {i : Nat} {f : Str} {v : V}, names.Nodup → names[i]? = some f → vs[i]? = some v → (names.zip vs).lookup f = some v
  | [], vs, i, f, v, nd, h1, h2 => by simp at h1
  | n :: ns, [], i, f, v, nd, h1, h2 => by simp at h2
  | n :: ns, x :: xs, 0, f, v, nd, h1, h2 => by
    simp at h1 h2
    subst h1; subst h2
    simp [List.lookup]
  | n :: ns, x :: xs, i + 1, f, v, nd, h1, h2 => by
    have nd' := List.nodup_cons.mp nd
    have hne : (f == n) = false := by
      rw [beq_eq_false_iff_ne]
      intro z
      subst z
      exact nd'.1 (List.mem_of_getElem? (by simpa using h1))
    show (List.lookup f ((n, x) :: ns.zip xs)) = some v
    rw [List.lookup_cons, hne]
    exact zip_lookup nd'.2 (by simpa using h1) (by simpa using h2)
theorem zip_miss : ∀ {names : List Str} {vs : List V} {f : Str}, f ∉ names → (names.zip vs).lookup f = none
  | [], vs, f, h => by simp
  | n :: ns, [], f, h => by simp
  | n :: ns, x :: xs, f, h => by
    have hne : (f == n) = false := by
      rw [beq_eq_false_iff_ne]
      intro z
      subst z
      exact h List.mem_cons_self
    show (List.lookup f ((n, x) :: ns.zip xs)) = none
    rw [List.lookup_cons, hne]
    exact zip_miss fun z => h (List.mem_cons_of_mem _ z)
/-- a store at place i: in its place, or behind the last one -/
def putI {α : Type} (i : Nat) (d : α) (l : List α) : List α := if i < l.length then l.set i d else l ++ [d]
theorem zip_put : ∀ {names : List Str} {vs : List V} {i : Nat} {f : Str} {v : V}, names.Nodup → names[i]? = some f → i ≤ vs.length → putF f v (names.zip vs) = names.zip (putI i v vs)
  | [], vs, i, f, v, nd, h1, h2 => by simp at h1
  | n :: ns, [], i, f, v, nd, h1, h2 => by
    simp at h2
    subst h2
    simp at h1
    subst h1
    simp [putI, putF]
  | n :: ns, x :: xs, 0, f, v, nd, h1, h2 => by
    simp at h1
    subst h1
    show (if n = n then _ else _) = _
    rw [if_pos rfl]
    rfl
  | n :: ns, x :: xs, i + 1, f, v, nd, h1, h2 => by
    have nd' := List.nodup_cons.mp nd
    have hne : ¬ n = f := by
      intro z
      subst z
      exact nd'.1 (List.mem_of_getElem? (by simpa using h1))
    show (if n = f then _ else (n, x) :: putF f v (ns.zip xs)) = _
    rw [if_neg hne, zip_put nd'.2 (by simpa using h1) (by simpa using h2)]
    unfold putI
    by_cases hi : i < xs.length
    · rw [if_pos hi, if_pos (by simpa using hi)]; rfl
    · rw [if_neg hi, if_neg (by simpa using hi)]; rfl
def insD (s : Sto) (c : Nat) (d : Dt) : Option (Nat × List Dt) := match d with
  | .obj j => match s[j]? with
    | some (.ins c' ds) => if c' = c then some (j, ds) else none
    | _ => none
  | _ => none
theorem G.ins {Γ : Wd} {ρ : List Addr} {F H : Hp} {s : Sto} (g : G Γ ρ F s H) {d : Dt} {v : V} {c j : Nat} {ds : List Dt} (r : Den Γ ρ F d v) (h : insD s c d = some (j, ds)) :
    ∃ a C dx vs, v = .ref a ∧ ρ[j]? = some a ∧ s[j]? = some (.ins c ds) ∧ Γ.cl c C ∧ H a = some (.ins C dx ((Γ.J c).2.zip vs)) ∧ Dens Γ ρ F ds vs ∧ ds.length ≤ (Γ.J c).2.length ∧ (Γ.J c).2.length < 1000 := by
  unfold insD at h
  split at h
  · rename_i j'
    split at h
    · rename_i c' ds' hs
      split at h
      · rename_i hc
        cases h
        subst hc
        simp only [Den] at r
        obtain ⟨a, e, q⟩ := r
        obtain ⟨C, dx, vs, h1, h2, h3, h4⟩ := g.at_ _ a _ q hs
        exact ⟨a, C, dx, vs, e, q, hs, h1, h2, h3, h4⟩
      · cases h
    · cases h
  · cases h
/-- what of the text an attribute asks -/
structure AtF (J : Cn) (K : PySem.W.Frag) (mg : Str → Option Value) (c i : Nat) (f : Str) : Prop where
  nm : (J c).2[i]? = some f
  nd : (J c).2.Nodup
  cl : ∀ C, mg (J c).1 = some (.ref C) → Cls K C ∧ NoAttr K C f
def eFld (c i : Nat) (fo : Ex) : Ex := fun env => bnd (fo env) fun d s => ofO s ((insD s c d).bind fun p => p.2[i]?)
theorem es_fld {c i : Nat} {f : Str} (A : AtF J X.K X.mg c i f) (ho : ES J X W o fo) (hb : attributeBase o f X.env (eval o X.env) = eval o X.env := by rfl) : ES J X W (.Attribute o f pos) (eFld c i fo) :=
  PE.imp (pe_fld ho hb) fun σ H Q ⟨env, ρ, F, s, g, l, k⟩ => ⟨env, ρ, F, s, g, l, Po.bind k fun d s1 ρ1 F1 H1 v e1 l1 g1 r1 k1 => by
    obtain ⟨d', e, k1⟩ := Po.ofO k1
    obtain ⟨⟨j, ds⟩, e2, e3⟩ := Option.bind_eq_some_iff.mp e
    obtain ⟨a, C, dx, vs, h1, h2, h3, h4, h5, h6, h7⟩ := g1.ins r1 e2
    obtain ⟨u, hu, ru⟩ := h6.get e3
    obtain ⟨hc, hn⟩ := A.cl C h4
    exact ⟨a, C, dx, _, u, h1, h5, hc, hn, zip_lookup A.nd A.nm hu, k1 ρ1 F1 H1 u LE.refl g1 ru⟩⟩
theorem Dens.putI {Γ : Wd} {ρ : List Addr} {F : Hp} {ds : List Dt} {vs : List V} {d : Dt} {v : V} (t : Dens Γ ρ F ds vs) (r : Den Γ ρ F d v) (i : Nat) : Dens Γ ρ F (Pd.putI i d ds) (Pd.putI i v vs) := by
  unfold Pd.putI
  rw [← t.length]
  split
  · exact Dens.set r i t
  · exact Dens.append t (Dens.one r)
def setFD (s : Sto) (c i : Nat) (d y : Dt) : Option Sto := (insD s c d).bind fun p => if i ≤ p.2.length then some (s.set p.1 (.ins c (putI i y p.2))) else none
def sSetF (c i : Nat) (fo fv : Ex) : Sx := fun env => sBnd (fv env) env fun y => sBnd (fo env) env fun d s => match setFD s c i d y with
  | some s' => .fl (.nx env) s'
  | none => .bad
theorem putI_len {α : Type} {i n : Nat} {d : α} {l : List α} (h : i < n) (k : l.length ≤ n) (hi : i ≤ l.length) : (putI i d l).length ≤ n := by
  unfold putI
  split
  · rw [List.length_set]; exact k
  · rw [List.length_append]; simp; omega
theorem ss_setF {c i : Nat} {f : Str} {value : Expr} {fv : Ex} {pos' : Pos} (A : AtF J X.K X.mg c i f) (ho : ES J X W o fo) (hv : ES J X W value fv) (hs : swapsWith value (some (.Attribute o f pos')) pos.line X.env = pure false := by rfl) : SS J X W (.Assign [.Attribute o f pos'] value pos) (sSetF c i fo fv) :=
  PS.imp (ps_fld ho hv hs) fun D σ H ⟨env, ρ, F, s, g, l, k⟩ => ⟨env, ρ, F, s, g, l, FPo.bind k l fun y s1 ρ1 F1 H1 v e1 l1 g1 r1 k1 =>
    ⟨env, ρ1, F1, s1, g1, l.mono l1, FPo.bind k1 (l.mono l1) fun d s2 ρ2 F2 H2 u e2 l2 g2 r2 k2 => by
      cases e : setFD s2 c i d y with
      | none => rw [e] at k2; exact False.elim k2
      | some s3 =>
        rw [e] at k2
        obtain ⟨⟨j, ds⟩, e3, e4⟩ := Option.bind_eq_some_iff.mp e
        simp only [] at e4
        split at e4
        · rename_i hi
          cases e4
          obtain ⟨a, C, dx, vs, h1, h2, h3, h4, h5, h6, h7, h8⟩ := g2.ins r2 e3
          obtain ⟨hc, hn⟩ := A.cl C h4
          have hin : i < (J c).2.length := (List.getElem?_eq_some_iff.mp A.nm).1
          have hvl : vs.length = ds.length := h6.length.symm
          refine ⟨a, C, dx, _, h1, h5, hc, hn, by rw [List.length_zip]; exact Nat.lt_of_le_of_lt (Nat.min_le_left _ _) h8, ?_⟩
          rw [zip_put A.nd A.nm (by rw [hvl]; exact hi)]
          refine k2 ρ2 F2 _ σ (LE.put (List.mem_of_getElem? h2)) (g2.put h2 (fun od u e => by rw [h5] at e; cases e) ⟨C, dx, _, h4, upd_same, Dens.putI h6 (Den.mono l2 _ _ r1) i, putI_len hin h7 hi, h8⟩) ((l.mono l1).mono l2)
        · cases e4⟩⟩
end
end Pd
namespace Pd
open PySem L2
/-! ### promises -/
/-- a def's meaning -/
abbrev Fn := List Dt → Sto → Out Dt
/-- a def keeps its meaning -/
def spD (Γ : Wd) (n : Nat) (m : Fn) : Sp := fun vs H Q E => ∃ ρ F s ds, G Γ ρ F s H ∧ Dens Γ ρ F ds vs ∧ ds.length = n ∧ EPo Γ ρ F H Q (fun c H' => E c none H') (m ds s)
/-- how errors leave a def: true, raised where nothing is handled; false, any -/
def cxt (z : Bool) (P : Program) (w : World) : CXT := match z with
  | true => L2N.CX P w
  | false => L2.CX P w
def Tks (z : Bool) (X : Cx) (W : WX) : Prop := match z with
  | true => L2N.Takes X W
  | false => L2.Takes X W
theorem xeN {X : Cx} {W : WX} {u : Value} {s : Shared} (x : L2N.XE X W u s) : L2.XE X W u s := by
  obtain ⟨a, B, sI, pins, σ, H, cls, d, e1, I, nb, up, sky, r⟩ := x
  refine ⟨a, B, sI, pins, σ, H, cls, d, e1, I, nb, up, ?_, r⟩
  rcases sky with ⟨h1, h2, h3, oe, vs, h4, h5, h6⟩ | ⟨h1, h2, h3, oe, vs, T, oT, ts, h4, h5, h6⟩ | ⟨h1, h2, h3, oe, vs, T, oT, ts, h4, h5, h6⟩
  · exact .inl ⟨h1, h2, h3, oe, vs, h4, h5.zc, h6⟩
  · exact .inr (.inl ⟨h1, h2, h3, oe, vs, T, oT, ts, h4, h5.zc, h6⟩)
  · exact .inr (.inr ⟨h1, h2, h3, oe, vs, T, oT, ts, h4, h5.zc, h6⟩)
theorem Tks.up {z : Bool} {X : Cx} {W : WX} (t : Tks false X W) : Tks z X W := match z with
  | true => fun u s x => t u s (xeN x)
  | false => t
theorem Tks.pass {z : Bool} {X : Cx} {W : WX} (t : Tks z X W) (σ : St) : PassesAt (cxt z X.prog X.w) X σ (WE W σ) := match z, t with
  | true, t => L2N.passAt t σ
  | false, t => L2.passAt t σ
theorem tks_of {z : Bool} {X : Cx} {E : XK} (hs : X.stack = X.env :: X.outer) (hf : X.env.frame = some X.env.locals) (hex : X.ex = []) {E1 : Value → Shared → Prop}
    (hx : X.xe = fun e s' => wpAny (model X.prog X.w) X.A (leaving X.env e) (fun _ s'' => cxt z X.prog X.w X.outer X.H_0 X.s_0 E e s'') E1 s') : Tks z X (fun cls d _ H => E cls d H) := match z, hx with
  | true, hx => L2N.takes_of hs hf hex hx
  | false, hx => L2.takes_of hs hf hex hx
theorem tks0 {z : Bool} {X : Cx} : Tks z X (fun _ _ _ _ => False) := Tks.up (z := z) takes0
/-- a def of the program by its meaning -/
structure Df (z : Bool) (P : Program) (w : World) (K : PySem.W.Frag) (mg : Str → Option Value) (base : Heap) (J : Cn) (k n : Nat) (f : Addr) (m : Fn) : Prop where
  ok : ∃ fd ps, FnOk P w K mg base (cxt z P w) k f fd ps (spD ⟨K, mg, J⟩ n m) ∧ Binds K fd ps []
abbrev DfX (z : Bool) (J : Cn) (X : Cx) (k n : Nat) (f : Addr) (m : Fn) : Prop := Df z X.prog X.w X.K X.mg X.base J k n f m
section
variable {J : Cn} {X : Cx} {W : WX} {a b c e e2 o : Expr} {es : List Expr} {fa fb fc fe fo : Ex} {fs : List Ex} {ft fu : Tx} {pos p apos : Pos} {st : Stmt} {rest : List Stmt} {f1 f2 : Sx}
def eCall (m : Fn) (fs : List Ex) : Ex := fun env => bnd (evs fs env) m
theorem es_call {k f : Nat} {x : Str} {m : Fn} {z : Bool} (tk : Tks z X W) (D : DfX z J X k (fs.length + 1) f m) (hr : Room k X.A) (hg : Gl X x) (hm : X.mg x = some (.ref f)) (hk : PySem.W.keepIn X.K (.ref f) = true) (ha : ASo J X W (e :: es) (fa :: fs))
    (hdb : (x == ("__debug__" : Str)) = false := by decide) (he : starEach (e :: es) X.env = (false, eval e X.env) :: starEach es X.env := by rfl) (hpl : (backTo pos (starEach es X.env)).any (·.1) = false := by rfl) :
    ES J X W (.Call (.Name x p) (e :: es) [] pos) (eCall m (fa :: fs)) := by
  obtain ⟨fd, ps, F, hb⟩ := D.ok
  exact PE.imp (pe_callS F hr hg hm hk hb (fun σ => tk.pass σ) ha hdb he hpl) fun σ H Q ⟨env, ρ, F, s, g, l, k⟩ => ⟨env, ρ, F, s, g, l, Po.bind k fun ds s1 ρ1 F1 H1 vs e1 l1 g1 r1 k1 => ⟨ρ1, F1, s1, ds, g1, r1, evs_len e1, k1⟩⟩
/-- a def without arguments -/
theorem es_call0 {k f : Nat} {x : Str} {m : Fn} {z : Bool} (tk : Tks z X W) (D : DfX z J X k 0 f m) (hr : Room k X.A) (hg : Gl X x) (hm : X.mg x = some (.ref f)) (hk : PySem.W.keepIn X.K (.ref f) = true) (hdb : (x == ("__debug__" : Str)) = false := by decide) :
    ES J X W (.Call (.Name x p) [] [] pos) (eCall m []) := by
  obtain ⟨fd, ps, F, hb⟩ := D.ok
  refine ⟨fun pins s σ H Q I h => ?_⟩
  obtain ⟨env, ρ, Fz, st, g, l, k⟩ := h
  refine wpAny_Call_Name_kw (ld_glob I hg hm ?_ hdb)
  exact PySem.W.callWith_K0 I.kIn hk (run_fnS (E := WE W) (us := []) (vs := []) F hr hb (tk.pass σ) I .nil ⟨ρ, Fz, st, [], g, by simp only [Dens], rfl, k⟩)
/-- what of the text a method asks -/
structure MeF (J : Cn) (K : PySem.W.Frag) (mg : Str → Option Value) (c : Nat) (m : Str) (C f : Addr) : Prop where
  mg : mg (J c).1 = some (.ref C)
  no : m ∉ (J c).2
  cl : Cls K C
  me : Meth K C m f
def eMeth (c : Nat) (m : Fn) (fo : Ex) (fs : List Ex) : Ex := fun env => bnd (fo env) fun x s => match insD s c x with
  | some _ => bnd (evs fs env) (fun ds => m (x :: ds)) s
  | none => .bad
theorem meth_of {c : Nat} {mn : Str} {C f : Addr} {m : Fn} {k : Nat} {pl : Sem Bool} {z : Bool} (tk : Tks z X W) (M : MeF J X.K X.mg c mn C f) (D : DfX z J X k (fs.length + 1) f m) (hr : Room k X.A) (ho : ES J X W o fo) (ha : ASo J X W es fs)
    (hcw : ∀ (pins : List (Addr × Obj)) (σ : St) (x : Addr) (s1 : Shared) (H1 : Hp) (Q : Value → Shared → Prop), Inv X pins σ H1 s1 → tA (wd J X) W fs σ H1 (fun vs H2 => ∀ us s2, Inv X pins σ H2 s2 → Vals vs us → wpAny (model X.prog X.w) X.A (call (.ref f) (.ref x :: us)) Q X.xe s2) →
      wpAny (model X.prog X.w) X.A (callWith pos (.ref f) [.ref x] (backTo pos (starEach es X.env)) (backToKw pos (keywordEach [] X.env))) Q X.xe s1)
    (ht : eval (.Call (.Attribute o mn apos) es [] pos) X.env = (do
      let ov ← eval o X.env
      standAt apos.atName
      let (f, first) ← holding [ov] (getMethod ov mn pl)
      callWith pos f first (backTo pos (starEach es X.env)) (backToKw pos (keywordEach [] X.env)))) :
    ES J X W (.Call (.Attribute o mn apos) es [] pos) (eMeth c m fo fs) := by
  obtain ⟨fd, ps, Fk, hb⟩ := D.ok
  refine ⟨fun pins s σ H Q I h => ?_⟩
  obtain ⟨env, ρ, F, st, g, l, k⟩ := h
  refine methcall_of ho I ⟨env, ρ, F, st, g, l, Po.bind k fun d s1 ρ1 F1 H1 v e1 l1 g1 r1 k1 => ?_⟩ ht
  cases e : insD s1 c d with
  | none => rw [e] at k1; exact False.elim k1
  | some q =>
    obtain ⟨j, ds⟩ := q
    rw [e] at k1
    obtain ⟨x, C', dx, vs, h1, h2, h3, h4, h5, h6, h7⟩ := g1.ins r1 e
    have eC : C' = C := by
      have z := h4.symm.trans M.mg
      cases z
      rfl
    subst eC
    refine ⟨x, C', dx, _, f, h1, h5, M.cl, M.me, zip_miss M.no, fun s2 I2 => hcw pins σ x s2 H1 _ I2 ?_⟩
    refine ⟨env, ρ1, F1, s1, g1, l.mono l1, Po.bind k1 fun as s3 ρ3 F3 H3 ws e3 l3 g3 r3 k3 us s4 I4 rv => ?_⟩
    refine run_fnS (E := WE W) (us := .ref x :: us) (vs := .ref x :: ws) Fk hr hb (tk.pass σ) I4 (.cons rfl rv) ⟨ρ3, F3, s3, d :: as, g3, ?_, by rw [List.length_cons, evs_len e3], k3⟩
    simp only [Dens]
    exact ⟨v, ws, by rw [h1], Den.mono l3 _ _ r1, r3⟩
theorem es_meth {c : Nat} {mn : Str} {C f : Addr} {m : Fn} {k : Nat} {pl : Sem Bool} {z : Bool} (tk : Tks z X W) (M : MeF J X.K X.mg c mn C f) (D : DfX z J X k (fs.length + 2) f m) (hr : Room k X.A) (ho : ES J X W o fo) (ha : ASo J X W (e :: es) (fa :: fs))
    (hst : starEach (e :: es) X.env = (false, eval e X.env) :: starEach es X.env := by rfl) (hpl : (backTo pos (starEach es X.env)).any (·.1) = false := by rfl)
    (ht : eval (.Call (.Attribute o mn apos) (e :: es) [] pos) X.env = (do
      let ov ← eval o X.env
      standAt apos.atName
      let (f, first) ← holding [ov] (getMethod ov mn pl)
      callWith pos f first (backTo pos (starEach (e :: es) X.env)) (backToKw pos (keywordEach [] X.env))) := by rfl) :
    ES J X W (.Call (.Attribute o mn apos) (e :: es) [] pos) (eMeth c m fo (fa :: fs)) :=
  meth_of (pl := pl) tk M D hr ho ha (fun pins σ x s1 H1 Q I1 h => PySem.W.callWith_K (first := [.ref x]) (h₀ := X.base) I1.ok.mod.kin M.me.kp (thn (ha.run pos pins s1 σ H1 _ I1 h) fun us s2 ⟨vs, H2, I2, r, q⟩ => ⟨I2.kIn, q us s2 I2 r⟩) hst hpl) ht
theorem es_meth0 {c : Nat} {mn : Str} {C f : Addr} {m : Fn} {k : Nat} {pl : Sem Bool} {z : Bool} (tk : Tks z X W) (M : MeF J X.K X.mg c mn C f) (D : DfX z J X k 1 f m) (hr : Room k X.A) (ho : ES J X W o fo)
    (ht : eval (.Call (.Attribute o mn apos) [] [] pos) X.env = (do
      let ov ← eval o X.env
      standAt apos.atName
      let (f, first) ← holding [ov] (getMethod ov mn pl)
      callWith pos f first (backTo pos (starEach [] X.env)) (backToKw pos (keywordEach [] X.env))) := by rfl) :
    ES J X W (.Call (.Attribute o mn apos) [] [] pos) (eMeth c m fo []) :=
  meth_of (pl := pl) (fs := []) tk M D hr ho as_nil (fun pins σ x s1 H1 Q I1 ⟨env, ρ, F, s, g, l, k⟩ => PySem.W.callWith_K0 (first := [.ref x]) I1.kIn M.me.kp (k ρ F H1 [] LE.refl g (by simp only [Dens]) [] s1 I1 .nil)) ht
/-- what of the text the making of an object asks -/
structure MkF (J : Cn) (K : PySem.W.Frag) (mg : Str → Option Value) (c : Nat) (C f : Addr) : Prop where
  mg : mg (J c).1 = some (.ref C)
  mak : Mk K C f
  few : (J c).2.length < 1000
def eMake (c : Nat) (m : Fn) (fs : List Ex) : Ex := fun env => bnd (evs fs env) fun ds s => bnd (m (.obj s.length :: ds)) (fun _ s' => .ok (.obj s.length) s') (s ++ [.ins c []])
theorem make_of {c : Nat} {C f : Addr} {m : Fn} {k n : Nat} {z : Bool} (tk : Tks z X W) (M : MkF J X.K X.mg c C f) (D : DfX z J X k (n + 1) f m) (hr : Room (k + 1) X.A)
    (hnon : ∀ ds s d s', m ds s = .ok d s' → d = .non) {pins : List (Addr × Obj)} {σ : St} {H : Hp} {s : Shared} {ρ : List Addr} {F : Hp} {st : Sto} {ds : List Dt} {us : List Value} {vs : List V} {Q : VK} (I : Inv X pins σ H s) (r : Vals vs us) (g : G (wd J X) ρ F st H) (t : Dens (wd J X) ρ F ds vs) (hn : ds.length = n)
    (q : EPo (wd J X) ρ F H Q (fun c H' => W c none σ H') (bnd (m (.obj st.length :: ds)) (fun _ s' => .ok (.obj st.length) s') (st ++ [.ins c []]))) : wpAny (model X.prog X.w) X.A (call (.ref C) us) (EP X pins σ Q) X.xe s := by
  obtain ⟨fd, ps, Fk, hb⟩ := D.ok
  have I2 := Inv.made (C := C) I
  have n1 : H (s.heap.objs.size + 1) = none := I.hok.fresh (Nat.le_succ _)
  have n0 : H s.heap.objs.size = none := I.hok.fresh (Nat.le_refl _)
  have ne : s.heap.objs.size + 1 ≠ s.heap.objs.size := Nat.succ_ne_self _
  have g1 : G (wd J X) ρ F st (upd H s.heap.objs.size (.own (s.heap.objs.size + 1))) := g.skip _ n0
  have n1' : upd H s.heap.objs.size (.own (s.heap.objs.size + 1)) (s.heap.objs.size + 1) = none := by rw [upd_ne ne]; exact n1
  have g2 : G (wd J X) (ρ ++ [s.heap.objs.size + 1]) F (st ++ [.ins c []]) (upd (upd H s.heap.objs.size (.own (s.heap.objs.size + 1))) (s.heap.objs.size + 1) (.ins C s.heap.objs.size [])) :=
    g1.new n1' ⟨C, s.heap.objs.size, [], M.mg, by rw [upd_same]; simp, by simp only [Dens], Nat.zero_le _, M.few⟩
  have l2 : LE ρ F H (ρ ++ [s.heap.objs.size + 1]) F (upd (upd H s.heap.objs.size (.own (s.heap.objs.size + 1))) (s.heap.objs.size + 1) (.ins C s.heap.objs.size [])) := (LE.skip n0).trans (LE.new n1')
  have hob : Den (wd J X) (ρ ++ [s.heap.objs.size + 1]) F (.obj st.length) (.ref (s.heap.objs.size + 1)) := by
    simp only [Den]
    exact ⟨_, rfl, by rw [← g.len, List.getElem?_append_right (Nat.le_refl _), Nat.sub_self]; rfl⟩
  have hsp : spD (wd J X) (n + 1) m (.ref (s.heap.objs.size + 1) :: vs) (upd (upd H s.heap.objs.size (.own (s.heap.objs.size + 1))) (s.heap.objs.size + 1) (.ins C s.heap.objs.size [])) (fun v H2 => v = .non ∧ Q (.ref (s.heap.objs.size + 1)) H2) (WE W σ) := by
    refine ⟨_, F, _, .obj st.length :: ds, g2, ?_, by rw [List.length_cons, hn], ?_⟩
    · simp only [Dens]
      exact ⟨_, vs, rfl, hob, Dens.mono l2 _ _ t⟩
    · have q2 := q.mono l2 (fun _ _ z => z) fun _ _ z => z
      refine Po.bind q2 fun d s3 ρ3 F3 H3 v e3 l3 g3 r3 k3 => ?_
      have ed := hnon _ _ _ _ e3
      subst ed
      simp only [Den] at r3
      exact ⟨r3, k3 ρ3 F3 H3 _ LE.refl g3 (Den.mono l3 _ _ hob)⟩
  have r2 : Vals (V.ref (s.heap.objs.size + 1) :: vs) (Value.ref (s.heap.objs.size + 1) :: us) := .cons rfl r
  have hl : (Value.ref (s.heap.objs.size + 1) :: us).length = ps.length := by rw [← r2.length]; exact Fk.len _ _ _ _ hsp
  have b2 := hb { s with heap := (s.heap.push PySem.W.emptyDict).push (PySem.W.instObj C s.heap.objs.size) } (Value.ref (s.heap.objs.size + 1) :: us) I2.kIn (by rw [List.append_nil]; exact hl)
  rw [List.append_nil] at b2
  refine wpAny_call (make_map (f := f) I.kIn M.mak.makes M.mak.init (beq_iff_eq.mp M.mak.fn) (codeAny_mono (Fk.run _ X.stack _ _ ⟨Value.ref (s.heap.objs.size + 1) :: us, []⟩ _ _ _ (WE W σ) (hr.make C us []) (I2.env0.make C us []) b2 r2 hsp) fun rs s' hq => ?_))
  cases rs with
  | error e => exact tk.pass σ pins _ _ e s' I2 hq
  | ok fl =>
    cases fl with
    | ret u =>
      obtain ⟨v, H', I3, rv, ev, q3⟩ := I2.after hq
      subst ev
      exact ⟨rv, ⟨V.ref (s.heap.objs.size + 1), H', I3, rfl, q3⟩⟩
    | _ => exact False.elim hq
theorem es_make {c : Nat} {x : Str} {C f : Addr} {m : Fn} {k : Nat} {z : Bool} (tk : Tks z X W) (M : MkF J X.K X.mg c C f) (D : DfX z J X k (fs.length + 2) f m) (hr : Room (k + 1) X.A) (hnon : ∀ ds s d s', m ds s = .ok d s' → d = .non) (hx : (J c).1 = x) (hg : Gl X x) (ha : ASo J X W (e :: es) (fa :: fs))
    (hdb : (x == ("__debug__" : Str)) = false := by decide) (he : starEach (e :: es) X.env = (false, eval e X.env) :: starEach es X.env := by rfl) (hpl : (backTo pos (starEach es X.env)).any (·.1) = false := by rfl) :
    ES J X W (.Call (.Name x p) (e :: es) [] pos) (eMake c m (fa :: fs)) := by
  refine ⟨fun pins s σ H Q I h => ?_⟩
  obtain ⟨env, ρ, F, st, g, l, k⟩ := h
  refine wpAny_Call_Name_kw (ld_glob I hg (by rw [← hx]; exact M.mg) ?_ hdb)
  refine PySem.W.callWith_K (h₀ := X.base) I.ok.mod.kin M.mak.kp (thn (ha.run pos pins s σ H (fun vs H1 => ∀ us s1, Inv X pins σ H1 s1 → Vals vs us → wpAny (model X.prog X.w) X.A (call (.ref C) us) (EP X pins σ Q) X.xe s1) I ⟨env, ρ, F, st, g, l, Po.bind k fun ds s1 ρ1 F1 H1 vs e1 l1 g1 r1 k1 us s2 I2 rv => make_of tk M D hr hnon I2 rv g1 r1 (evs_len e1) k1⟩) fun us s1 ⟨vs, H1, I1, r, q⟩ => ⟨I1.kIn, q us s1 I1 r⟩) he hpl
theorem es_make0 {c : Nat} {x : Str} {C f : Addr} {m : Fn} {k : Nat} {z : Bool} (tk : Tks z X W) (M : MkF J X.K X.mg c C f) (D : DfX z J X k 1 f m) (hr : Room (k + 1) X.A) (hnon : ∀ ds s d s', m ds s = .ok d s' → d = .non) (hx : (J c).1 = x) (hg : Gl X x)
    (hdb : (x == ("__debug__" : Str)) = false := by decide) :
    ES J X W (.Call (.Name x p) [] [] pos) (eMake c m []) := by
  refine ⟨fun pins s σ H Q I h => ?_⟩
  obtain ⟨env, ρ, F, st, g, l, k⟩ := h
  refine wpAny_Call_Name_kw (ld_glob I hg (by rw [← hx]; exact M.mg) ?_ hdb)
  exact PySem.W.callWith_K0 I.kIn M.mak.kp (make_of (us := []) (vs := []) (ds := []) tk M D hr hnon I .nil g (by simp only [Dens]) rfl k)
/-! ### a def by its body -/
def fnOf (n : Nat) (f : Sx) : Fn := fun ds s => match f (ds.map some ++ List.replicate (n - ds.length) none) s with
  | .fl (.rt d) s' => .ok d s'
  | .fl (.nx _) s' => .ok .non s'
  | .exc c _ s' => .exc c s'
  | _ => .bad
end
theorem Dens.slots {Γ : Wd} {ρ : List Addr} {F : Hp} {ds : List Dt} {vs : List V} (t : Dens Γ ρ F ds vs) (N : List Str) : Sl Γ ρ F (ds.map some ++ List.replicate (N.length - ds.length) none) (L2.start N vs) := by
  unfold L2.start
  refine ⟨by simp [t.length], fun i d h => ?_⟩
  by_cases hi : i < ds.length
  · rw [List.getElem?_append_left (by simpa using hi), List.getElem?_map] at h
    obtain ⟨d', e1, e2⟩ := Option.map_eq_some_iff.mp h
    cases e2
    obtain ⟨v, e3, r⟩ := t.get e1
    exact ⟨v, by rw [List.getElem?_append_left (by rw [List.length_map, ← t.length]; exact hi), List.getElem?_map, e3]; rfl, r⟩
  · rw [List.getElem?_append_right (by simpa using hi), List.getElem?_replicate] at h
    split at h
    · simp at h
    · cases h
/-- the same def by a meaning that ends alike wherever the first one ends well -/
theorem Df.imp {z : Bool} {P : Program} {w : World} {K : PySem.W.Frag} {mg : Str → Option Value} {base : Heap} {J : Cn} {k n : Nat} {f : Addr} {m m' : Fn} (D : Df z P w K mg base J k n f m)
    (h : ∀ ds s, ds.length = n → m' ds s ≠ .bad → m ds s = m' ds s) : Df z P w K mg base J k n f m' := by
  obtain ⟨fd, ps, F, hb⟩ := D.ok
  refine ⟨fd, ps, F.imp fun vs H Q E ⟨ρ, Fz, s, ds, g, t, z, q⟩ => ⟨ρ, Fz, s, ds, g, t, z, ?_⟩, hb⟩
  rw [h ds s z (fun e => by rw [e] at q; exact q)]
  exact q
theorem Df.mono {z : Bool} {P : Program} {w : World} {K : PySem.W.Frag} {mg : Str → Option Value} {base : Heap} {J : Cn} {k k' n : Nat} {f : Addr} {m : Fn} (D : Df z P w K mg base J k n f m) (h : k ≤ k') : Df z P w K mg base J k' n f m := by
  obtain ⟨fd, ps, F, hb⟩ := D.ok
  exact ⟨fd, ps, F.mono h, hb⟩
theorem okC {P : Program} {w : World} {K : PySem.W.Frag} {mg : Str → Option Value} {base : Heap} {CX : CXT} {x qual : Str} {st : Stmt} {f : Addr} {fd : FuncData} {N ps : List Str} {k : Nat} {sp : Sp} (F : Fun K x qual st f fd) (S : FnScope N ps (defScope st)) (len : ∀ vs H Q E, sp vs H Q E → vs.length = ps.length)
    (hbody : ∀ (cdv : Value) (A : Around) (outer : List Env) (s : Shared) (H : Hp) (vs : List V) (Q : VK) (E : XK), Room k (A.deeper (PyProof.Rows.envOfC qual (defScope st) s.heap.objs.size f cdv)) → sp vs H Q E →
      ∃ t, PSs (cxOf CX P w K mg base N qual (defScope st) f cdv A outer s H E) (defBody st) t ∧ t { nx := fun _ H' => Q .non H', rt := Q } (L2.start N vs) H) : FnOk P w K mg base CX (k + 1) f fd ps sp := by
  obtain ⟨oc, od, kV, doc, pm, an, cdv, ct, osl, e, lk, hcd⟩ := F.ex
  subst e
  exact fn_of lk hcd S len (hbody cdv)
theorem fn_of_body {z : Bool} {P : Program} {w : World} {K : PySem.W.Frag} {mg : Str → Option Value} {base : Heap} {J : Cn} {k n : Nat} {f : Addr} {m : Fn} {fd : FuncData} {ps : List Str} {x qual : Str} {st : Stmt} {N : List Str} {fb : Sx}
    (F : Fun K x qual st f fd) (S : FnScope N ps (defScope st)) (hn : ps.length = n) (hm : m = fnOf N.length fb)
    (body : ∀ (cdv : Value) (A : Around) (outer : List Env) (s : Shared) (H : Hp) (E : XK), Room k (A.deeper (PyProof.Rows.envOfC qual (defScope st) s.heap.objs.size f cdv)) →
      SSs J (cxOf (cxt z P w) P w K mg base N qual (defScope st) f cdv A outer s H E) (fun cls d _ H' => E cls d H') (defBody st) fb) : FnOk P w K mg base (cxt z P w) (k + 1) f fd ps (spD ⟨K, mg, J⟩ n m) := by
  subst hn; subst hm
  refine okC F S (fun vs H Q E h => ?_) (fun cdv A outer s H vs Q E hr h => ⟨_, body cdv A outer s H E hr, ?_⟩)
  · obtain ⟨ρ, F, s, ds, g, t, z, _⟩ := h
    rw [← t.length, z]
  · obtain ⟨ρ, Fz, so, ds, g, t, z, q⟩ := h
    refine ⟨_, ρ, Fz, so, g, t.slots N, ?_⟩
    unfold fnOf at q
    cases e : fb (ds.map some ++ List.replicate (N.length - ds.length) none) so with
    | fl f s' =>
      rw [e] at q
      cases f with
      | nx e1 => exact fun ρ' F' H' σ' l' g' _ => q ρ' F' H' .non l' g' (by simp only [Den])
      | rt d => exact q
      | bk d => exact False.elim q
      | ct d => exact False.elim q
    | exc c e1 s' =>
      rw [e] at q
      exact fun ρ' F' H' σ' C l' g' _ hC => q ρ' F' H' C l' g' hC
    | bad => rw [e] at q; exact q
theorem df_of {z : Bool} {P : Program} {w : World} {K : PySem.W.Frag} {mg : Str → Option Value} {base : Heap} {J : Cn} {x qual : Str} {st : Stmt} {f : Addr} {fd : FuncData} {N ps : List Str} {k : Nat} {fb : Sx}
    (F : Fun K x qual st f fd) (S : FnScope N ps (defScope st)) (hb : Binds K fd ps [])
    (body : ∀ (cdv : Value) (A : Around) (outer : List Env) (s : Shared) (H : Hp) (E : XK), Room k (A.deeper (PyProof.Rows.envOfC qual (defScope st) s.heap.objs.size f cdv)) →
      SSs J (cxOf (cxt z P w) P w K mg base N qual (defScope st) f cdv A outer s H E) (fun cls d _ H' => E cls d H') (defBody st) fb) : Df z P w K mg base J (k + 1) ps.length f (fnOf N.length fb) :=
  ⟨fd, ps, fn_of_body F S rfl rfl body, hb⟩
/-- the law's own promise at the script -/
theorem law_sp {K : PySem.W.Frag} {mg : Str → Option Value} {J : Cn} {m : Fn} (h : ∀ ns : List Int, ns.length ≤ 63 → ∃ s, m [.lsk (ns.map .int)] [] = .ok (.bl true) s) {H : Hp} {a : Addr} {ns : List Int} (hl : ns.length ≤ 63) (hs : SqL K H a (ns.map V.int)) :
    spD ⟨K, mg, J⟩ 1 m [.ref a] H (fun v _ => v = .bl true) fun _ _ _ => False := by
  obtain ⟨s, e⟩ := h ns hl
  refine ⟨[], H, [], [.lsk (ns.map .int)], ⟨fun _ _ h => h, rfl, List.nodup_nil, (fun _ h => nomatch h), (fun i a mo h => by simp at h)⟩, ?_, rfl, ?_⟩
  · simp only [Dens, Den]
    refine ⟨_, _, rfl, ⟨by rw [List.length_map, sizeLine_eq]; omega, a, _, rfl, hs, ?_⟩, rfl⟩
    clear e hl hs
    induction ns with
    | nil => simp only [List.map_nil, Dens]
    | cons n ns ih =>
      simp only [List.map_cons, Dens]
      exact ⟨_, _, rfl, by simp only [Den], ih⟩
  · rw [e]
    intro ρ' F' H' v l g r
    simp only [Den] at r
    exact r
/-! ### a body that hands back nothing -/
def NoRt (f : Sx) : Prop := ∀ env s d s', f env s ≠ .fl (.rt d) s'
theorem noRt_next : NoRt sNext := fun env s d s' h => by cases h
theorem noRt_expr {f : Ex} : NoRt (sExpr f) := fun env s d s' h => by
  unfold sExpr sBnd at h
  split at h <;> cases h
theorem noRt_setF {c i : Nat} {fo fv : Ex} : NoRt (sSetF c i fo fv) := fun env s d s' h => by
  unfold sSetF sBnd at h
  split at h
  · dsimp only at h
    split at h
    · split at h <;> cases h
    · cases h
    · cases h
  · cases h
  · cases h
theorem noRt_seq {f g : Sx} (hf : NoRt f) (hg : NoRt g) : NoRt (sSeq f g) := fun env s d s' h => by
  unfold sSeq at h
  split at h
  · exact hg _ _ _ _ h
  · exact hf _ _ _ _ h
theorem noRt_fn {n : Nat} {f : Sx} (hf : NoRt f) : ∀ ds s d s', fnOf n f ds s = .ok d s' → d = .non := fun ds s d s' h => by
  unfold fnOf at h
  split at h
  · rename_i e
    exact absurd e (hf _ _ _ _)
  · cases h; rfl
  · cases h
  · cases h
theorem _root_.L2.Room.u65 {k : Nat} {A : Around} (r : L2.Room k A) : A.units + 65 < cLine := by have := r.un; omega
theorem _root_.L2.Room.u1 {k : Nat} {A : Around} (r : L2.Room k A) : A.units + 1 < cLine := by have := r.un; omega
end Pd
namespace Pd
open PySem L2
/-! ### what a loop walks -/
structure ItS (Γ : Wd) (ρ0 : List Addr) (F0 : Hp) (T : It) (l : List Dt) (ok : Sto → Prop) : Prop where
  len : l.length ≤ sizeLine
  go : ∀ (i : Nat) ρ F s H, LD ρ0 F0 ρ F → G Γ ρ F s H → ok s → i < l.length → T.go i H
  stop : ∀ (i : Nat) ρ F s H, LD ρ0 F0 ρ F → G Γ ρ F s H → ok s → i = l.length → T.stop i H
  yld : ∀ (i : Nat) ρ F s H d x H', LD ρ0 F0 ρ F → G Γ ρ F s H → ok s → l[i]? = some d → T.yld i H x H' → ∃ F', LE ρ F H ρ F' H' ∧ G Γ ρ F' s H' ∧ Den Γ ρ F' d x
abbrev Is := En → Sto → Out (List Dt × (Sto → Prop))
def tI (Γ : Wd) (W : WX) (f : Is) : TI := fun σ H R => ∃ env ρ F s, G Γ ρ F s H ∧ Sl Γ ρ F env σ ∧ Po Γ (fun ρ F (a : List Dt × (Sto → Prop)) (T : It) => ItS Γ ρ F T a.1 a.2) ρ F H R (fun c H' => W c none σ H') (f env s)
abbrev IS (J : Cn) (X : Cx) (W : WX) (tg iter : Expr) (f : Is) : Prop := PI X tg iter (tI (wd J X) W f)
theorem PI.imp {X : Cx} {tg e : Expr} {t t' : TI} (h : PI X tg e t) (k : ∀ σ H R, t' σ H R → t σ H R) : PI X tg e t' := ⟨fun pins s σ H R I q => h.run pins s σ H R I (k σ H R q)⟩
theorem PI.or {X : Cx} {tg e : Expr} {t t' : TI} (h : PI X tg e t) (h' : PI X tg e t') : PI X tg e (fun σ H R => t σ H R ∨ t' σ H R) := ⟨fun pins s σ H R I q => by
  rcases q with q | q
  · exact h.run pins s σ H R I q
  · exact h'.run pins s σ H R I q⟩
def signs (x : Str) : List Dt := x.cps.toList.map fun c => .str ⟨#[c]⟩
/-- a list, a tuple, a text -/
def iSeq (f : Ex) : Is := fun env => bnd (f env) fun d s => match d with
  | .str x => .ok (signs x, fun _ => True) s
  | d => match asQ s d with
    | some l => .ok (l, fun s' => asQ s' d = some l) s
    | none => .bad
def iRange (f : Ex) : Is := fun env => bnd (f env) fun d s => match d with
  | .int n => if n ≤ 16777216 ∧ -(2 ^ 62) ≤ n then .ok ((List.range n.toNat).map fun (k : Nat) => .int k, fun _ => True) s else .bad
  | _ => .bad
def iRange2 (f g : Ex) : Is := fun env => bnd (f env) fun d => bnd (g env) fun e s => match d, e with
  | .int i, .int j => if (-(2 ^ 62) ≤ i ∧ i < 2 ^ 62 ∧ -(2 ^ 62) ≤ j ∧ j < 2 ^ 62) ∧ j - i ≤ 16777216 then .ok ((List.range (j - i).toNat).map fun (k : Nat) => .int (i + k), fun _ => True) s else .bad
  | _, _ => .bad
theorem its_range {Γ : Wd} {ρ : List Addr} {F : Hp} {lo : Int} {n : Nat} {l : List Dt} {ok : Sto → Prop} (hl : l = (List.range n).map fun (k : Nat) => .int (lo + k)) (hz : n ≤ sizeLine) : ItS Γ ρ F (Itr lo n) l ok where
  len := by rw [hl, List.length_map, List.length_range]; exact hz
  go := fun i _ _ _ _ _ _ _ h => by rw [hl, List.length_map, List.length_range] at h; exact h
  stop := fun i _ _ _ _ _ _ _ h => by rw [hl, List.length_map, List.length_range] at h; exact Nat.le_of_eq h.symm
  yld := fun i ρ F s H d x H' _ g _ hd y => by
    obtain ⟨e1, e2⟩ := y
    subst e1
    refine ⟨F, LE.refl, g, ?_⟩
    rw [hl, List.getElem?_map] at hd
    obtain ⟨k, e3, e4⟩ := Option.map_eq_some_iff.mp hd
    have e5 : i = k := by
      have := List.getElem?_eq_some_iff.mp e3
      obtain ⟨h1, h2⟩ := this
      simpa using h2
    subst e5; subst e4
    simp only [Den]
    exact e2
theorem its_str {Γ : Wd} {ρ : List Addr} {F : Hp} {x : Str} {ok : Sto → Prop} (hx : sok x = true) : ItS Γ ρ F (Its x) (signs x) ok where
  len := by unfold signs; rw [List.length_map]; exact (by simpa [Str.length] using sok_len hx)
  go := fun i _ _ _ _ _ _ _ h => by unfold signs at h; rw [List.length_map] at h; show i < x.cps.size; simpa using h
  stop := fun i _ _ _ _ _ _ _ h => by unfold signs at h; rw [List.length_map] at h; exact Nat.le_of_eq (by simpa using h.symm)
  yld := fun i ρ F s H d v H' _ g _ hd y => by
    obtain ⟨e1, c, e2, e3⟩ := y
    subst e1
    refine ⟨F, LE.refl, g, ?_⟩
    unfold signs at hd
    rw [List.getElem?_map] at hd
    obtain ⟨k, e4, e5⟩ := Option.map_eq_some_iff.mp hd
    have e6 : c = k := by
      have z : x.cps.toList[i]? = some c := by simpa using e2
      rw [z] at e4
      exact Option.some.inj e4
    subst e6; subst e5
    simp only [Den]
    exact ⟨e3, sok_sign hx (List.mem_of_getElem? e4)⟩
theorem its_list {Γ : Wd} {ρ : List Addr} {F : Hp} {d : Dt} {v : V} {a : Addr} {l : List Dt} (r : Den Γ ρ F d v) (e : v = .ref a) (hq : ∀ s : Sto, asQ s d = asL s d) (hz : l.length ≤ sizeLine) : ItS Γ ρ F (Itl Γ.K a) l (fun s => asQ s d = some l) where
  len := hz
  go := fun i ρ1 F1 s H ld g ok h => by
    obtain ⟨b, xs, e1, q, t, _⟩ := g.sqL (Den.monoD ld d v r) (by rw [← hq]; exact ok)
    rw [e] at e1; cases e1
    have hx : i < xs.length := by rw [← t.length]; exact h
    exact ⟨xs, xs[i], q, List.getElem?_eq_getElem hx⟩
  stop := fun i ρ1 F1 s H ld g ok h => by
    obtain ⟨b, xs, e1, q, t, _⟩ := g.sqL (Den.monoD ld d v r) (by rw [← hq]; exact ok)
    rw [e] at e1; cases e1
    exact ⟨xs, q, by rw [← t.length]; exact Nat.le_of_eq h.symm⟩
  yld := fun i ρ1 F1 s H d' x H' ld g ok hd y => by
    obtain ⟨b, xs, e1, q, t, _⟩ := g.sqL (Den.monoD ld d v r) (by rw [← hq]; exact ok)
    rw [e] at e1; cases e1
    obtain ⟨e2, hy⟩ := y
    subst e2
    obtain ⟨u, e3, ru⟩ := t.get hd
    rw [hy xs q] at e3
    cases e3
    exact ⟨F1, LE.refl, g, ru⟩
theorem its_tup {Γ : Wd} {ρ : List Addr} {F : Hp} {v : V} {a : Addr} {l : List Dt} {ok : Sto → Prop} (r : Den Γ ρ F (.tup l) v) (e : v = .ref a) (hz : l.length ≤ sizeLine) : ItS Γ ρ F (Itt Γ.K a) l ok where
  len := hz
  go := fun i ρ1 F1 s H ld g _ h => by
    obtain ⟨b, xs, e1, q, t, _⟩ := g.sqT (Den.monoD ld _ v r) (l := l) rfl
    rw [e] at e1; cases e1
    have hx : i < xs.length := by rw [← t.length]; exact h
    exact ⟨xs, xs[i], q, List.getElem?_eq_getElem hx⟩
  stop := fun i ρ1 F1 s H ld g _ h => by
    obtain ⟨b, xs, e1, q, t, _⟩ := g.sqT (Den.monoD ld _ v r) (l := l) rfl
    rw [e] at e1; cases e1
    exact ⟨xs, q, by rw [← t.length]; exact Nat.le_of_eq h.symm⟩
  yld := fun i ρ1 F1 s H d' x H' ld g _ hd y => by
    obtain ⟨b, xs, e1, q, t, _⟩ := g.sqT (Den.monoD ld _ v r) (l := l) rfl
    rw [e] at e1; cases e1
    obtain ⟨e2, hy⟩ := y
    subst e2
    obtain ⟨u, e3, ru⟩ := t.get hd
    rw [hy xs q] at e3
    cases e3
    exact ⟨F1, LE.refl, g, ru⟩
section
variable {J : Cn} {X : Cx} {W : WX} {a b c e e2 o tgt : Expr} {es : List Expr} {fa fb fc fe fo : Ex} {fs : List Ex} {ft fu : Tx} {pos p : Pos} {st : Stmt} {rest : List Stmt} {f1 f2 : Sx}
theorem is_seq (h : ES J X W e fe) : IS J X W tgt e (iSeq fe) :=
  PI.imp (PI.or (pi_list h) (PI.or (pi_tup h) (pi_str h))) fun σ H R ⟨env, ρ, F, s, g, l, k⟩ => by
    unfold iSeq at k
    have case_bad : fe env s = .bad → False := fun e => by unfold bnd at k; rw [e] at k; exact k
    cases ev : fe env s with
    | bad => exact (case_bad ev).elim
    | exc c s1 =>
      unfold bnd at k
      rw [ev] at k
      exact .inl ⟨env, ρ, F, s, g, l, by rw [ev]; exact k⟩
    | ok d s1 =>
      have k' := k
      unfold bnd at k'
      rw [ev] at k'
      have gen : (∀ s, asQ s d = asL s d) → ∀ l', asQ s1 d = some l' → Po (wd J X) (fun ρ F (a : List Dt × (Sto → Prop)) (T : It) => ItS (wd J X) ρ F T a.1 a.2) ρ F H R (fun c H' => W c none σ H') (.ok (l', fun s' => asQ s' d = some l') s1) → iList X.K (tE (wd J X) W fe) σ H R := fun hq l' hl kk =>
        ⟨env, ρ, F, s, g, l, by
          rw [ev]
          exact fun ρ1 F1 H1 v l1 g1 r1 => by
            obtain ⟨x, xs, e1, q, t, z⟩ := g1.sqL r1 (by rw [← hq]; exact hl)
            exact ⟨x, e1, ⟨xs, q⟩, kk ρ1 F1 H1 _ l1 g1 (its_list r1 e1 hq z)⟩⟩
      cases d with
      | str z =>
        refine .inr (.inr ⟨env, ρ, F, s, g, l, ?_⟩)
        rw [ev]
        exact fun ρ1 F1 H1 v l1 g1 r1 => by
          simp only [Den] at r1
          exact ⟨z, r1.1, k' ρ1 F1 H1 _ l1 g1 (its_str r1.2)⟩
      | tup l' =>
        refine .inr (.inl ⟨env, ρ, F, s, g, l, ?_⟩)
        rw [ev]
        exact fun ρ1 F1 H1 v l1 g1 r1 => by
          obtain ⟨x, xs, e1, q, t, z⟩ := g1.sqT r1 (l := l') rfl
          exact ⟨x, e1, ⟨xs, q⟩, k' ρ1 F1 H1 _ l1 g1 (its_tup r1 e1 z)⟩
      | lst l' => exact .inl (gen (fun _ => rfl) l' rfl k')
      | lsk l' => exact .inl (gen (fun _ => rfl) l' rfl k')
      | obj j =>
        simp only [] at k'
        cases eq : asQ s1 (.obj j) with
        | none => rw [eq] at k'; exact False.elim k'
        | some l' => rw [eq] at k'; exact .inl (gen (fun _ => rfl) l' eq k')
      | _ => exact False.elim k'
theorem is_range (hg : Gl X "range") (hm : X.mg "range" = none) (h : ES J X W e fe) (hs : starEach [e] X.env = [(false, eval e X.env)] := by rfl) : IS J X W tgt (.Call (.Name "range" p) [e] [] pos) (iRange fe) :=
  PI.imp (pi_range1 hg hm (pa_cons h pa_nil hs) hs) fun σ H R ⟨env, ρ, F, s, g, l, k⟩ => ⟨env, ρ, F, s, g, l, Po.bind k fun d s1 ρ1 F1 H1 v e1 l1 g1 r1 k1 => by
    cases d with
    | int n =>
      simp only [] at k1
      split at k1
      · rename_i hz
        simp only [Den] at r1
        exact ⟨n, by rw [r1], hz.2, by omega, k1 ρ1 F1 H1 _ LE.refl g1 (its_range (by simp) (by rw [sizeLine_eq]; omega))⟩
      · exact False.elim k1
    | _ => exact False.elim k1⟩
theorem is_range2 (hg : Gl X "range") (hm : X.mg "range" = none) (h : ES J X W a fa) (h' : ES J X W b fb) (hs : starEach [a, b] X.env = [(false, eval a X.env), (false, eval b X.env)] := by rfl) (hs2 : starEach [b] X.env = [(false, eval b X.env)] := by rfl) : IS J X W tgt (.Call (.Name "range" p) [a, b] [] pos) (iRange2 fa fb) := by
  have z1 : starEach (a :: [b]) X.env = (false, eval a X.env) :: starEach [b] X.env := by rw [hs2]; exact hs
  exact PI.imp (pi_range2 hg hm (pa_cons h (pa_cons h' pa_nil hs2) z1) hs hs2) fun σ H R ⟨env, ρ, F, s, g, l, k⟩ => ⟨env, ρ, F, s, g, l, Po.bind k fun d s1 ρ1 F1 H1 v e1 l1 g1 r1 k1 => ⟨env, ρ1, F1, s1, g1, l.mono l1, Po.bind k1 fun d2 s2 ρ2 F2 H2 v2 e2 l2 g2 r2 k2 => by
    cases d with
    | int i =>
      cases d2 with
      | int j =>
        simp only [] at k2
        split at k2
        · rename_i hz
          simp only [Den] at r1 r2
          exact ⟨i, j, by rw [r1, r2], hz.1, k2 ρ2 F2 H2 _ LE.refl g2 (its_range rfl (by rw [sizeLine_eq]; omega))⟩
        · exact False.elim k2
      | _ => exact False.elim k2
    | _ => exact False.elim k2⟩⟩
/-! ### for, while -/
open Classical in
noncomputable def forGo (tg : Tg) (body : Sx) (ok : Sto → Prop) : List Dt → Sx
  | [], env, s => if ok s then .fl (.nx env) s else .bad
  | d :: r, env, s => if ok s then match tg d env s with
      | some env1 => match body env1 s with
        | .fl (.nx e) s' => forGo tg body ok r e s'
        | .fl (.ct e) s' => forGo tg body ok r e s'
        | .fl (.bk e) s' => .fl (.nx e) s'
        | .fl (.rt d) s' => .fl (.rt d) s'
        | .exc c e s' => .exc c e s'
        | .bad => .bad
      | none => .bad
    else .bad
noncomputable def sFor (fi : Is) (tg : Tg) (body : Sx) : Sx := fun env => sBnd (fi env) env fun p => forGo tg body p.2 p.1 env
theorem ss_for {iter : Expr} {body : List Stmt} {fi : Is} {is : List Nat} {tg : Tg} (hp : PassesOwn (model X.prog X.w) X.A X.env X.xe) (hc : X.calm = true) (hi : IS J X W tgt iter fi) (hg : GS J X tgt is tg) (hb : SSs J X W body f1)
    (hs : ∀ x, foldedSetIterable iter X.env x = pure x := by intro _; rfl) : SS J X W (.For tgt iter body [] pos) (sFor fi tg f1) :=
  PS.imp (ps_for hp hc hi hg hb hs) fun D σ H ⟨env, ρ, F, s, g, l, k⟩ => ⟨env, ρ, F, s, g, l, FPo.bind k l fun q s1 ρ1 F1 H1 T e1 l1 g1 r1 k1 => by
    obtain ⟨its, ok⟩ := q
    refine ⟨fun i m σ H => i ≤ its.length ∧ m = its.length - i ∧ ∃ env ρ F s, LE ρ1 F1 H1 ρ F H ∧ G (wd J X) ρ F s H ∧ Sl (wd J X) ρ F env σ ∧ FPo (wd J X) W ρ F H D (forGo tg f1 ok (its.drop i) env s), ⟨_, Nat.zero_le _, rfl, env, ρ1, F1, s1, LE.refl, g1, l.mono l1, k1⟩, ?_⟩
    rintro i m σ2 H2 ⟨hi, em, env2, ρ2, F2, s2, l2, g2, sl2, k2⟩
    by_cases hlt : i < its.length
    · obtain ⟨d, hd⟩ : ∃ d, its[i]? = some d := ⟨its[i], List.getElem?_eq_getElem hlt⟩
      have hdr : its.drop i = d :: its.drop (i + 1) := by
        rw [List.drop_eq_getElem_cons hlt]
        congr 1
        have := List.getElem?_eq_some_iff.mp hd
        exact this.2
      rw [hdr] at k2
      simp only [forGo] at k2
      split at k2
      · rename_i hok
        cases et : tg d env2 s2 with
        | none => rw [et] at k2; exact False.elim k2
        | some env3 =>
          rw [et] at k2
          simp only [] at k2
          refine .inr ⟨r1.go i ρ2 F2 s2 H2 l2.ld g2 hok hlt, fun σ' H' => i + 1 ≤ its.length ∧ its.length - (i + 1) = its.length - (i + 1) ∧ ∃ env ρ F s, LE ρ1 F1 H1 ρ F H' ∧ G (wd J X) ρ F s H' ∧ Sl (wd J X) ρ F env σ' ∧ FPo (wd J X) W ρ F H' D (forGo tg f1 ok (its.drop (i + 1)) env s), fun σ' H' hN => ⟨its.length - (i + 1), by rw [em]; omega, hN⟩, fun x H' hy => ?_⟩
          obtain ⟨F3, l3, g3, rd⟩ := r1.yld i ρ2 F2 s2 H2 d x H' l2.ld g2 hok hd hy
          refine ⟨env2, ρ2, F3, s2, d, env3, g3, sl2.mono l3, rd, et, fun σ4 sl4 _ _ => ⟨env3, ρ2, F3, s2, g3, sl4, ?_⟩⟩
          have k3 := k2.le l3
          cases eb : f1 env3 s2 with
          | fl f s4 =>
            rw [eb] at k3
            cases f with
            | nx e4 => exact fun ρ5 F5 H5 σ5 l5 g5 sl5 => ⟨hlt, rfl, e4, ρ5, F5, s4, (l2.trans l3).trans l5, g5, sl5, k3.le l5⟩
            | ct e4 => exact fun ρ5 F5 H5 σ5 l5 g5 sl5 => ⟨hlt, rfl, e4, ρ5, F5, s4, (l2.trans l3).trans l5, g5, sl5, k3.le l5⟩
            | rt d4 => exact k3
            | bk e4 => exact k3
          | exc c4 e4 s4 => rw [eb] at k3; exact k3
          | bad => rw [eb] at k3; exact k3
      · exact False.elim k2
    · have hie : i = its.length := by omega
      have hdr : its.drop i = [] := List.drop_eq_nil_of_le (by omega)
      rw [hdr] at k2
      simp only [forGo] at k2
      split at k2
      · rename_i hok
        exact .inl ⟨r1.stop i ρ2 F2 s2 H2 l2.ld g2 hok hie, k2 ρ2 F2 H2 σ2 LE.refl g2 sl2⟩
      · exact False.elim k2⟩
def whGo (t : Tx) (body : Sx) : Nat → Sx
  | 0, _, _ => .bad
  | n + 1, env, s => sBnd (t env) env (fun c s1 => if c = true then (match body env s1 with
      | .fl (.nx e) s' => whGo t body n e s'
      | .fl (.ct e) s' => whGo t body n e s'
      | .fl (.bk e) s' => .fl (.nx e) s'
      | .fl (.rt d) s' => .fl (.rt d) s'
      | .exc c e s' => .exc c e s'
      | .bad => .bad) else .fl (.nx env) s1) s
theorem ss_while {body : List Stmt} (n : Nat) (hp : PassesOwn (model X.prog X.w) X.A X.env X.xe) (hc : TSo J X W c ft) (hb : SSs J X W body f1) : SS J X W (.While c body [] pos) (whGo ft f1 n) :=
  PS.imp (ps_while hp hc hb) fun D σ H ⟨env, ρ, F, s, g, l, k⟩ => by
    refine ⟨fun m σ H => ∃ env ρ F s, G (wd J X) ρ F s H ∧ Sl (wd J X) ρ F env σ ∧ FPo (wd J X) W ρ F H D (whGo ft f1 m env s), ⟨n, env, ρ, F, s, g, l, k⟩, ?_⟩
    rintro m σ2 H2 ⟨env2, ρ2, F2, s2, g2, sl2, k2⟩
    cases m with
    | zero => exact False.elim k2
    | succ m =>
      simp only [whGo] at k2
      refine ⟨env2, ρ2, F2, s2, g2, sl2, FPo.bind k2 sl2 fun cb s3 ρ3 F3 H3 bb e3 l3 g3 r3 k3 => ?_⟩
      subst r3
      cases cb with
      | false => exact k3 ρ3 F3 H3 σ2 LE.refl g3 (sl2.mono l3)
      | true =>
        refine ⟨fun σ' H' => ∃ env ρ F s, G (wd J X) ρ F s H' ∧ Sl (wd J X) ρ F env σ' ∧ FPo (wd J X) W ρ F H' D (whGo ft f1 m env s), fun σ' H' hN => ⟨m, Nat.lt_succ_self _, hN⟩, env2, ρ3, F3, s3, g3, sl2.mono l3, ?_⟩
        simp only [if_true] at k3
        cases eb : f1 env2 s3 with
        | fl f s4 =>
          rw [eb] at k3
          cases f with
          | nx e4 => exact fun ρ5 F5 H5 σ5 l5 g5 sl5 => ⟨e4, ρ5, F5, s4, g5, sl5, k3.le l5⟩
          | ct e4 => exact fun ρ5 F5 H5 σ5 l5 g5 sl5 => ⟨e4, ρ5, F5, s4, g5, sl5, k3.le l5⟩
          | rt d4 => exact k3
          | bk e4 => exact k3
        | exc c4 e4 s4 => rw [eb] at k3; exact k3
        | bad => rw [eb] at k3; exact k3
end
end Pd
namespace Pd
open PySem L2
/-! ### comprehensions -/
/-- one computation behind another that raises nothing -/
def bndN {α β : Type} (m : Sto → Out α) (k : α → Sto → Out β) (s : Sto) : Out β := match m s with
  | .ok a s' => k a s'
  | _ => .bad
theorem Po.bindN {α β γ δ : Type} {Γ : Wd} {R1 : List Addr → Hp → α → β → Prop} {R2 : List Addr → Hp → γ → δ → Prop} {ρ0 ρ : List Addr} {F0 H0 F H : Hp} {Q : δ → Hp → Prop} {Q1 : β → Hp → Prop} {E E' : Value → Hp → Prop} {m : Sto → Out α} {k : α → Sto → Out γ} {s : Sto}
    (h : Po Γ R2 ρ0 F0 H0 Q E (bndN m k s)) (hk : ∀ a s', m s = .ok a s' → Po Γ R2 ρ0 F0 H0 Q E (k a s') → ∀ ρ' F' H' v, LE ρ F H ρ' F' H' → G Γ ρ' F' s' H' → R1 ρ' F' a v → Q1 v H') : Po Γ R1 ρ F H Q1 E' (m s) := by
  unfold bndN at h
  cases e : m s with
  | ok a s' => rw [e] at h; exact hk a s' e h
  | exc c s' => rw [e] at h; exact False.elim h
  | bad => rw [e] at h; exact False.elim h
theorem LE.at_new {ρ ρ' : List Addr} {F H F' H' : Hp} (l : LE ρ F H ρ' F' H') {p : Addr} {o : HO} (hp : H p = none) : LE ρ F H ρ' F' (upd H' p o) where
  ld := l.ld
  fr := l.fr
  ff := l.ff
  keep := fun a u h n => by rw [upd_ne (ne_of_none h hp)]; exact l.keep a u h n
  there := fun a u h => by
    obtain ⟨w, q⟩ := l.there a u h
    exact ⟨w, by rw [upd_ne (ne_of_none h hp)]; exact q⟩
open Classical in
noncomputable def lcGo (tg : Tg) (ft : Tx) (fe : Ex) (ok : Sto → Prop) : List Dt → En → Sto → Out (List Dt)
  | [], _, s => if ok s then .ok [] s else .bad
  | d :: r, env, s => if ok s then match tg d env s with
      | some env1 => bndN (ft env1) (fun b s1 => if b = true then bndN (fe env1) (fun y => bndN (lcGo tg ft fe ok r env) fun ys s => .ok (y :: ys) s) s1 else lcGo tg ft fe ok r env s1) s
      | none => .bad
    else .bad
def wipeD (env : En) : List Nat → En
  | [] => env
  | v :: vs => (wipeD env vs).set v none
noncomputable def eLc (nw : List Dt → Sto → Out Dt) (vs : List Nat) (fi : Is) (tg : Tg) (ft : Tx) (fe : Ex) : Ex := fun env => bnd (fi env) fun p => bndN (lcGo tg ft fe p.2 p.1 (wipeD env vs)) nw
theorem Sl.wipe {Γ : Wd} {ρ : List Addr} {F : Hp} {env : En} {σ : St} (h : Sl Γ ρ F env σ) : ∀ vs : List Nat, Sl Γ ρ F (wipeD env vs) (L2.wipe σ vs)
  | [] => h
  | v :: vs => (Sl.wipe h vs).unset v
theorem wipe_in {τ : St} {j : Nat} : ∀ {vs : List Nat}, j ∈ vs → (L2.wipe τ vs)[j]? = if j < τ.length then some none else none
  | v :: vs, h => by
    show ((L2.wipe τ vs).set v none)[j]? = _
    by_cases e : v = j
    · subst e
      by_cases hl : v < τ.length
      · rw [if_pos hl, List.getElem?_set_self (by rw [wipe_length]; exact hl)]
      · rw [if_neg hl]
        exact List.getElem?_eq_none (by rw [List.length_set, wipe_length]; omega)
    · rw [List.getElem?_set_ne e]
      exact wipe_in (by
        rcases List.mem_cons.mp h with h | h
        · exact absurd h.symm e
        · exact h)
theorem wipe_same {σ σ2 : St} {is vs : List Nat} (hsub : ∀ i ∈ is, i ∈ vs) (hl : σ2.length = (L2.wipe σ vs).length) (h : ∀ j, j ∉ is → σ2[j]? = (L2.wipe σ vs)[j]?) : L2.wipe σ2 vs = L2.wipe σ vs := by
  apply List.ext_getElem?
  intro j
  by_cases hj : j ∈ vs
  · rw [wipe_in hj, wipe_in hj, hl, wipe_length]
  · rw [wipe_out hj]
    exact h j fun z => hj (hsub j z)
section
variable {J : Cn} {X : Cx} {W : WX} {a b c e e2 o tgt iter elt : Expr} {es ifs : List Expr} {fa fb fc fe fo : Ex} {fs : List Ex} {ft fu : Tx} {pos p : Pos} {st : Stmt} {rest : List Stmt} {f1 f2 : Sx} {fi : Is} {is : List Nat} {tg : Tg}
abbrev W0 : WX := fun _ _ _ _ => False
/-- what holds of the new list once it is whole -/
theorem lst_done {nw : List Dt → Sto → Out Dt} (n : IsNw nw) {Γ : Wd} {ρ0 ρ : List Addr} {F0 H0 F H : Hp} {s : Sto} {acc : List Dt} {xs : List V} {D : Addr} {Q : VK} {E : Value → Hp → Prop} (g : G Γ ρ F s H) (l : LE ρ0 F0 H0 ρ F H) (t : Dens Γ ρ F acc xs) (hz : acc.length ≤ sizeLine) (hD : H D = some (.lst xs)) (h0 : H0 D = none) (nr : D ∉ ρ) (nf : F D = none)
    (k : EPo Γ ρ0 F0 H0 Q E (nw acc s)) : Q (.ref D) H := by
  have eH : upd H D (.lst xs) = H := by
    funext x
    by_cases e : x = D
    · subst e; rw [upd_same, hD]
    · rw [upd_ne e]
  rcases n with n | n
  · subst n
    have ld : LD ρ F ρ (upd F D (.lst xs)) := LD.upd nf
    refine k ρ (upd F D (.lst xs)) H _ ⟨l.ld.trans ld, l.fr, fun a o h => ?_, l.keep, l.there⟩ ⟨fun a o h => ?_, g.len, g.nd, fun a h => ?_, fun i a mo h1 h2 => (g.at_ i a mo h1 h2).mono ld rfl⟩ ?_
    · by_cases e : a = D
      · subst e; exact .inr (.inl h0)
      · rw [upd_ne e] at h; exact l.ff a o h
    · by_cases e : a = D
      · subst e; rw [upd_same] at h; cases h; exact hD
      · rw [upd_ne e] at h; exact g.sub a o h
    · rw [upd_ne (fun z => nr (by rw [← z]; exact h))]; exact g.sep a h
    · simp only [Den]
      exact ⟨hz, D, xs, rfl, upd_same, Dens.monoD ld _ _ t⟩
  · subst n
    have ld : LD ρ F (ρ ++ [D]) F := LD.push
    refine k (ρ ++ [D]) F H _ ⟨l.ld.trans ld, fun a h => ?_, l.ff, l.keep, l.there⟩ ⟨g.sub, by simp [g.len], ?_, fun a h => ?_, fun i a m h1 h2 => ?_⟩ ?_
    · rcases List.mem_append.mp h with h | h
      · exact l.fr a h
      · rw [List.mem_singleton] at h; rw [h]; exact .inr h0
    · refine List.nodup_append.mpr ⟨g.nd, by simp, fun a ha b hb => ?_⟩
      rw [List.mem_singleton] at hb
      rw [hb]
      exact fun z => nr (by rw [← z]; exact ha)
    · rcases List.mem_append.mp h with h | h
      · exact g.sep a h
      · rw [List.mem_singleton] at h; rw [h]; exact .inl nf
    · by_cases hi : i < ρ.length
      · rw [List.getElem?_append_left hi] at h1
        rw [List.getElem?_append_left (by rw [← g.len]; exact hi)] at h2
        exact (g.at_ i a m h1 h2).mono ld rfl
      · rw [List.getElem?_append_right (by omega)] at h1
        rw [List.getElem?_append_right (by rw [← g.len]; omega)] at h2
        have e0 : i - ρ.length = 0 := by
          have := (List.getElem?_eq_some_iff.mp h1).1
          simp at this
          omega
        rw [e0] at h1
        rw [← g.len, e0] at h2
        cases h1
        cases h2
        exact ⟨hz, xs, hD, Dens.monoD ld _ _ t⟩
    · simp only [Den]
      exact ⟨D, rfl, by rw [← g.len, List.getElem?_append_right (Nat.le_refl _), Nat.sub_self]; rfl⟩
theorem lc_of {nw : List Dt → Sto → Out Dt} (n : IsNw nw) {vs : List Nat} (hsub : ∀ i ∈ is, i ∈ vs) {σ : St} {H : Hp} {Q : VK} (h : tE (wd J X) W (eLc nw vs fi tg ft fe) σ H Q) : tLc (tI (wd J X) W fi) (tG (wd J X) is tg) (tT (wd J X) W0 ft) (tE (wd J X) W0 fe) vs σ H Q := by
  obtain ⟨env, ρ, F, s, g, l, k⟩ := h
  refine ⟨env, ρ, F, s, g, l, Po.bind k fun q s1 ρ1 F1 H1 T e1 l1 g1 r1 k1 D hD => ?_⟩
  obtain ⟨its, ok⟩ := q
  have swl := (l.mono l1).wipe vs
  refine ⟨fun i m H => i ≤ its.length ∧ m = its.length - i ∧ ∃ ρ F s acc xs, LE ρ1 F1 H1 ρ F H ∧ G (wd J X) ρ F s H ∧ D ∉ ρ ∧ F D = none ∧ H D = some (.lst xs) ∧ Dens (wd J X) ρ F acc xs ∧ acc.length ≤ i ∧
      EPo (wd J X) ρ1 F1 H1 Q (fun c H' => W c none σ H') (bndN (lcGo tg ft fe ok (its.drop i) (wipeD env vs)) (fun ds => nw (acc ++ ds)) s), ?_, ?_⟩
  · refine ⟨its.length, Nat.zero_le _, rfl, ρ1, F1, s1, [], [], LE.skip hD, g1.skip _ hD, fun z => ?_, g1.fnone hD, upd_same, by simp only [Dens], Nat.le_refl _, k1⟩
    exact (g1.new_ne hD z) rfl
  · rintro i m H2 ⟨hi, em, ρ2, F2, s2, acc, xs, l2, g2, nr, nf, hDx, t, hac, k2⟩
    by_cases hlt : i < its.length
    · obtain ⟨d, hd⟩ : ∃ d, its[i]? = some d := ⟨its[i], List.getElem?_eq_getElem hlt⟩
      have hdr : its.drop i = d :: its.drop (i + 1) := by
        rw [List.drop_eq_getElem_cons hlt]
        congr 1
        exact (List.getElem?_eq_some_iff.mp hd).2
      rw [hdr] at k2
      have hok : ok s2 := by
        apply Classical.byContradiction
        intro hno
        simp only [bndN, lcGo, if_neg hno] at k2
        exact k2
      cases et : tg d (wipeD env vs) s2 with
      | none => simp only [bndN, lcGo, if_pos hok, et] at k2; exact False.elim k2
      | some env1 =>
        refine .inr ⟨r1.go i ρ2 F2 s2 H2 l2.ld g2 hok hlt, fun H' => i + 1 ≤ its.length ∧ its.length - (i + 1) = its.length - (i + 1) ∧ ∃ ρ F s acc xs, LE ρ1 F1 H1 ρ F H' ∧ G (wd J X) ρ F s H' ∧ D ∉ ρ ∧ F D = none ∧ H' D = some (.lst xs) ∧ Dens (wd J X) ρ F acc xs ∧ acc.length ≤ i + 1 ∧
          EPo (wd J X) ρ1 F1 H1 Q (fun c H' => W c none σ H') (bndN (lcGo tg ft fe ok (its.drop (i + 1)) (wipeD env vs)) (fun ds => nw (acc ++ ds)) s), fun H' hN => ⟨_, by rw [em]; omega, hN⟩, fun x H' hy => ?_⟩
        obtain ⟨F3, l3, g3, rd⟩ := r1.yld i ρ2 F2 s2 H2 d x H' l2.ld g2 hok hd hy
        have swl3 := (swl.mono l2).mono l3
        refine ⟨_, ρ2, F3, s2, d, env1, g3, swl3, rd, et, fun σ2 sl2 z1 z2 => ⟨wipe_same hsub z1 z2, env1, ρ2, F3, s2, g3, sl2, ?_⟩⟩
        -- the test
        have k3 : EPo (wd J X) ρ1 F1 H1 Q (fun c H' => W c none σ H') (bndN (ft env1) (fun b s1 => if b = true then bndN (fe env1) (fun y => bndN (lcGo tg ft fe ok (its.drop (i + 1)) (wipeD env vs)) fun ys => nw (acc ++ (y :: ys))) s1 else bndN (lcGo tg ft fe ok (its.drop (i + 1)) (wipeD env vs)) (fun ds => nw (acc ++ ds)) s1) s2) := by
          have e : bndN (lcGo tg ft fe ok (d :: its.drop (i + 1)) (wipeD env vs)) (fun ds => nw (acc ++ ds)) s2 = (bndN (ft env1) (fun b s1 => if b = true then bndN (fe env1) (fun y => bndN (lcGo tg ft fe ok (its.drop (i + 1)) (wipeD env vs)) fun ys => nw (acc ++ (y :: ys))) s1 else bndN (lcGo tg ft fe ok (its.drop (i + 1)) (wipeD env vs)) (fun ds => nw (acc ++ ds)) s1) s2) := by
            simp only [bndN, lcGo, if_pos hok, et]
            cases ft env1 s2 with
            | ok b s3 =>
              cases b with
              | true =>
                simp only [if_true]
                cases fe env1 s3 with
                | ok y s4 =>
                  simp only []
                  cases lcGo tg ft fe ok (its.drop (i + 1)) (wipeD env vs) s4 <;> rfl
                | _ => rfl
              | false => simp
            | _ => rfl
          rw [← e]; exact k2
        have nr3 : D ∉ ρ2 := nr
        have nf3 : F3 D = none := by
          cases e : F3 D with
          | none => rfl
          | some o =>
            rcases l3.ff D o e with ⟨u, z⟩ | z | ⟨_, _, z⟩
            · rw [nf] at z; cases z
            · rw [hDx] at z; cases z
            · rw [hDx] at z; cases z
        have hD3 : H' D = some (.lst xs) := l3.keep D _ hDx nr
        have stay : ∀ {ρ' : List Addr} {F' H3 : Hp}, LE ρ2 F3 H' ρ' F' H3 → D ∉ ρ' ∧ F' D = none ∧ H3 D = some (.lst xs) := fun {ρ' F' H3} l => by
          refine ⟨fun z => ?_, ?_, l.keep D _ hD3 nr3⟩
          · rcases l.fr D z with z | z
            · exact nr3 z
            · rw [hD3] at z; cases z
          · cases e : F' D with
            | none => rfl
            | some o =>
              rcases l.ff D o e with ⟨u, z⟩ | z | ⟨_, _, z⟩
              · rw [nf3] at z; cases z
              · rw [hD3] at z; cases z
              · rw [hD3] at z; cases z
        refine Po.bindN k3 fun b s3 eb k4 ρ4 F4 H4 b' l4 g4 r4 => ?_
        subst r4
        cases b with
        | false =>
          simp only [Bool.false_eq_true, if_false] at k4
          obtain ⟨w1, w2, w3⟩ := stay l4
          rw [if_neg Bool.false_ne_true]
          exact ⟨hlt, rfl, ρ4, F4, s3, acc, xs, (l2.trans l3).trans l4, g4, w1, w2, w3, Dens.mono (l3.trans l4) _ _ t, Nat.le_succ_of_le hac, k4⟩
        | true =>
          simp only [if_true] at k4
          rw [if_pos rfl]
          refine ⟨env1, ρ4, F4, s3, g4, sl2.mono l4, Po.bindN k4 fun y s5 ey k5 ρ5 F5 H5 v l5 g5 r5 => ?_⟩
          obtain ⟨w1, w2, w3⟩ := stay (l4.trans l5)
          refine ⟨xs, w3, ?_, hlt, rfl, ρ5, F5, s5, acc ++ [y], xs ++ [v], ((l2.trans l3).trans (l4.trans l5)).at_new hD, g5.other _ w1 w2, w1, w2, upd_same, Dens.append (Dens.mono (l3.trans (l4.trans l5)) _ _ t) (Dens.one r5), by rw [List.length_append]; simpa using hac, ?_⟩
          · rw [← t.length]
            exact Nat.lt_of_le_of_lt hac (Nat.lt_of_lt_of_le hlt r1.len)
          · have e : (fun ds => nw (acc ++ [y] ++ ds)) = fun ys => nw (acc ++ (y :: ys)) := by funext ys; rw [List.append_assoc]; rfl
            rw [e]
            exact k5
    · have hie : i = its.length := by omega
      have hdr : its.drop i = [] := List.drop_eq_nil_of_le (by omega)
      rw [hdr] at k2
      have hok : ok s2 := by
        apply Classical.byContradiction
        intro hno
        simp only [bndN, lcGo, if_neg hno] at k2
        exact k2
      simp only [bndN, lcGo, if_pos hok, List.append_nil] at k2
      exact .inl ⟨r1.stop i ρ2 F2 s2 H2 l2.ld g2 hok hie, lst_done n g2 l2 t (Nat.le_trans hac (by rw [hie]; exact r1.len)) hDx hD nr nf k2⟩
theorem es_lc {nw : List Dt → Sto → Out Dt} (n : IsNw nw) {scope : Scope} {own : List (Str × Nat)} (hc : X.calm = true) (hN : X.N.Nodup) (hi : IS J X W tgt iter fi) (ok : BlkOk X.N X.env.scope scope own) (hsub : ∀ i ∈ is, i ∈ own.map (·.2))
    (hg : ∀ (s : Shared) (H : Hp) (C : Addr) (cl : List (Str × Addr)) (fp : List Addr), GS J (X.blk s H scope (compEnvC scope cl C X.env) fp) tgt is tg) (ht : ∀ (s : Shared) (H : Hp) (C : Addr) (cl : List (Str × Addr)) (fp : List Addr), PTs (X.blk s H scope (compEnvC scope cl C X.env) fp) ifs (tT (wd J X) W0 ft))
    (he : ∀ (s : Shared) (H : Hp) (C : Addr) (cl : List (Str × Addr)) (fp : List Addr), ES J (X.blk s H scope (compEnvC scope cl C X.env) fp) W0 elt fe) (hs : ∀ x, foldedSetIterable iter X.env x = pure x := by intro _; rfl) :
    ES J X W (.ListComp elt [⟨tgt, iter, ifs, 0⟩] scope pos) (eLc nw (own.map (·.2)) fi tg ft fe) :=
  PE.imp (pe_lc hc hN hi ok hg ht he hs) fun σ H Q h => lc_of n hsub h
theorem ss_setLc {nw : List Dt → Sto → Out Dt} (n : IsNw nw) {i : Nat} {y : Str} {py spos : Pos} {scope : Scope} {own : List (Str × Nat)} (hc : X.calm = true) (hN : X.N.Nodup) (hy : X.N[i]? = some y) (hyl : X.env.scope.names.lookup y = some .local)
    (hsw : swapsWith (.ListComp elt [⟨tgt, iter, ifs, 0⟩] scope pos) (some (.Name y py)) spos.line X.env = pure true) (hi : IS J X W tgt iter fi) (ok : BlkOk X.N X.env.scope scope own) (hsub : ∀ i ∈ is, i ∈ own.map (·.2))
    (hg : ∀ (s : Shared) (H : Hp) (C : Addr) (cl : List (Str × Addr)) (fp : List Addr), GS J (X.blk s H scope (compEnvC scope cl C X.env) fp) tgt is tg) (ht : ∀ (s : Shared) (H : Hp) (C : Addr) (cl : List (Str × Addr)) (fp : List Addr), PTs (X.blk s H scope (compEnvC scope cl C X.env) fp) ifs (tT (wd J X) W0 ft))
    (he : ∀ (s : Shared) (H : Hp) (C : Addr) (cl : List (Str × Addr)) (fp : List Addr), ES J (X.blk s H scope (compEnvC scope cl C X.env) fp) W0 elt fe) (hs : ∀ x, foldedSetIterable iter X.env x = pure x := by intro _; rfl) :
    SS J X W (.Assign [.Name y py] (.ListComp elt [⟨tgt, iter, ifs, 0⟩] scope pos) spos) (sAsg (eLc nw (own.map (·.2)) fi tg ft fe) (gN i)) :=
  PS.imp (ps_setLc hc hN hy hyl hsw hi ok hg ht he hs) fun D σ H ⟨env, ρ, F, s, g, l, k⟩ => lc_of (W := W) n hsub ⟨env, ρ, F, s, g, l, FPo.bind k l fun d s1 ρ1 F1 H1 v e1 l1 g1 r1 k1 => k1 ρ1 F1 H1 _ LE.refl g1 ((l.mono l1).set r1 i)⟩
def tYes : Tx := fun _ s => .ok true s
theorem PTs.imp {X : Cx} {e : List Expr} {t t' : TT} (h : PTs X e t) (k : ∀ σ H Q, t' σ H Q → t σ H Q) : PTs X e t' := ⟨fun pins s σ H Q I q => h.run pins s σ H Q I (k σ H Q q)⟩
theorem tts_nil : PTs X [] (tT (wd J X) W Pd.tYes) := PTs.imp pts_nil fun σ H Q ⟨env, ρ, F, s, g, l, k⟩ => k ρ F H true LE.refl g rfl
theorem tts_one (h : TSo J X W c ft) : PTs X [c] (tT (wd J X) W ft) := pts_one h
end
end Pd
namespace Pd
open PySem L2
/-- a list that is tracked -/
def trkL (s : Sto) : Dt → Option (List Dt)
  | .lst l => some l
  | .obj i => match s[i]? with
    | some (.lst l) => some l
    | _ => none
  | _ => none
/-- a list of the store -/
def lstAt (s : Sto) : Dt → Option (Nat × List Dt)
  | .obj i => match s[i]? with
    | some (.lst l) => some (i, l)
    | _ => none
  | _ => none
section
variable {Γ : Wd} {ρ : List Addr} {F H : Hp} {s : Sto}
theorem G.trk (g : G Γ ρ F s H) {d : Dt} {v : V} {l : List Dt} (r : Den Γ ρ F d v) (h : trkL s d = some l) : ∃ a xs, v = .ref a ∧ H a = some (.lst xs) ∧ Dens Γ ρ F l xs ∧ l.length ≤ sizeLine := by
  cases d with
  | lst l' =>
    simp only [Den] at r
    simp only [trkL, Option.some.injEq] at h
    subst h
    obtain ⟨z, a, xs, e, q, t⟩ := r
    exact ⟨a, xs, e, g.sub _ _ q, t, z⟩
  | obj i =>
    simp only [Den] at r
    obtain ⟨a, e, q⟩ := r
    simp only [trkL] at h
    split at h
    · rename_i l' hs
      cases h
      obtain ⟨z, xs, ha, t⟩ := g.at_ i a _ q hs
      exact ⟨a, xs, e, ha, t, z⟩
    · cases h
  | _ => simp [trkL] at h
theorem G.lat (g : G Γ ρ F s H) {d : Dt} {v : V} {i : Nat} {l : List Dt} (r : Den Γ ρ F d v) (h : lstAt s d = some (i, l)) : ∃ a xs, v = .ref a ∧ ρ[i]? = some a ∧ H a = some (.lst xs) ∧ Dens Γ ρ F l xs ∧ l.length ≤ sizeLine := by
  cases d with
  | obj j =>
    simp only [Den] at r
    obtain ⟨a, e, q⟩ := r
    simp only [lstAt] at h
    split at h
    · rename_i l' hs
      cases h
      obtain ⟨z, xs, ha, t⟩ := g.at_ _ a _ q hs
      exact ⟨a, xs, e, q, ha, t, z⟩
    · cases h
  | _ => simp [lstAt] at h
/-- a list of the store is written -/
theorem G.setL (g : G Γ ρ F s H) {i : Nat} {a : Addr} {l : List Dt} {xs : List V} {ys : List V} (hi : ρ[i]? = some a) (q : H a = some (.lst ys)) (t : Dens Γ ρ F l xs) (z : l.length ≤ sizeLine) : G Γ ρ F (s.set i (.lst l)) (upd H a (.lst xs)) := g.put hi (fun od u e => by rw [q] at e; cases e) ⟨z, xs, upd_same, t⟩
end
/-! ### a + b -/
def dAdd (nw : List Dt → Sto → Out Dt) (x y : Dt) (s : Sto) : Out Dt := match x with
  | .int i => match y with
    | .int j => .ok (.int (i + j)) s
    | _ => .bad
  | .str i => match y with
    | .str j => if i.length + j.length ≤ 1000000 then .ok (.str (i ++ j)) s else .bad
    | _ => .bad
  | .tup l => match y with
    | .tup m => if l.length + m.length ≤ sizeLine then .ok (.tup (l ++ m)) s else .bad
    | _ => .bad
  | x => match trkL s x with
    | some l => match trkL s y with
      | some m => if l.length + m.length ≤ sizeLine then nw (l ++ m) s else .bad
      | none => .bad
    | none => .bad
theorem sok_app {i j : Str} (hi : sok i = true) (hj : sok j = true) (h : i.length + j.length ≤ 1000000) : sok (i ++ j) = true := by
  have e : (i ++ j).cps.toList = i.cps.toList ++ j.cps.toList := TL.tl_append i j
  refine sok_of (fun c hc => ?_) ?_
  · rw [e] at hc
    rcases List.mem_append.mp hc with hc | hc
    · exact sok_mem hi hc
    · exact sok_mem hj hc
  · have : (i ++ j).length = i.length + j.length := by
      show (i ++ j).cps.size = i.cps.size + j.cps.size
      rw [← Array.length_toList, e, List.length_append, Array.length_toList, Array.length_toList]
    omega
def rAddAll (K : PySem.W.Frag) : R2 := fun x y H Q => rI0 (fun i j => .int (i + j)) x y H Q ∨ ((∃ i j, x = .str i ∧ y = .str j ∧ i.length + j.length ≤ sizeLine ∧ Q (.str (i ++ j)) H) ∨ (rCatA K x y H Q ∨ rCat x y H Q))
theorem dAdd_ok {Γ : Wd} {nw : List Dt → Sto → Out Dt} (n : IsNw nw) : OpS Γ (rAddAll Γ.K) (dAdd nw) := by
  intro ρ F s H x y dx dy Q E g rx ry k
  have gen : ∀ l, trkL s dx = some l → (∀ m, trkL s dy = some m → l.length + m.length ≤ sizeLine → EPo Γ ρ F H Q E (nw (l ++ m) s) → rCat x y H Q) := fun l hl m hm hz k => by
    obtain ⟨a, xs, e1, q1, t1, _⟩ := g.trk rx hl
    obtain ⟨b, ys, e2, q2, t2, _⟩ := g.trk ry hm
    exact ⟨a, b, xs, ys, e1, e2, q1, q2, by rw [← t1.length, ← t2.length]; exact hz, fun p hp => new_lst n g (Dens.append t1 t2) (by rw [List.length_append]; exact hz) hp k⟩
  cases dx with
  | int i =>
    cases dy with
    | int j =>
      simp only [Den] at rx ry
      exact .inl ⟨i, j, rx, ry, k ρ F H _ LE.refl g (by simp only [Den])⟩
    | _ => exact False.elim k
  | str i =>
    cases dy with
    | str j =>
      simp only [Den] at rx ry
      simp only [dAdd] at k
      split at k
      · rename_i h
        refine .inr (.inl ⟨i, j, rx.1, ry.1, by rw [sizeLine_eq]; omega, k ρ F H _ LE.refl g ?_⟩)
        simp only [Den]
        exact ⟨trivial, sok_app rx.2 ry.2 h⟩
      · exact False.elim k
    | _ => exact False.elim k
  | tup l =>
    cases dy with
    | tup m =>
      simp only [dAdd] at k
      split at k
      · rename_i h
        obtain ⟨a, xs, e1, q1, t1, z1⟩ := g.sqT rx (l := l) rfl
        obtain ⟨b, ys, e2, q2, t2, z2⟩ := g.sqT ry (l := m) rfl
        refine .inr (.inr (.inl ⟨a, b, xs, ys, e1, e2, q1, q2, by rw [← t1.length, ← t2.length]; exact h, fun hx => ?_, fun hx hy => ?_, fun hx hy p hp => ?_⟩))
        · have el : l = [] := by
            have := t1.length
            rw [hx] at this
            exact List.length_eq_zero_iff.mp (by simpa using this)
          subst el
          rw [List.nil_append] at k
          have := k ρ F H y LE.refl g ry
          rw [e2] at this
          exact this
        · have em : m = [] := by
            have := t2.length
            rw [hy] at this
            exact List.length_eq_zero_iff.mp (by simpa using this)
          subst em
          rw [List.append_nil] at k
          have := k ρ F H x LE.refl g rx
          rw [e1] at this
          exact this
        · exact new_tup g (Dens.append t1 t2) (by rw [List.length_append]; exact h) hp k
      · exact False.elim k
    | _ => exact False.elim k
  | lst l =>
    simp only [dAdd, trkL] at k
    cases e : trkL s dy with
    | none => simp only [trkL] at e; rw [e] at k; exact False.elim k
    | some m =>
      simp only [trkL] at e
      rw [e] at k
      simp only [] at k
      split at k
      · rename_i h
        exact .inr (.inr (.inr (gen l rfl m e h k)))
      · exact False.elim k
  | obj i =>
    simp only [dAdd] at k
    cases e1 : trkL s (.obj i) with
    | none => rw [e1] at k; exact False.elim k
    | some l =>
      rw [e1] at k
      simp only [] at k
      cases e : trkL s dy with
      | none => rw [e] at k; exact False.elim k
      | some m =>
        rw [e] at k
        simp only [] at k
        split at k
        · rename_i h
          exact .inr (.inr (.inr (gen l e1 m e h k)))
        · exact False.elim k
  | _ => exact False.elim k
section
variable {J : Cn} {X : Cx} {W : WX} {a b c e e2 o tgt iter elt : Expr} {es ifs : List Expr} {fa fb fc fe fo : Ex} {fs : List Ex} {ft fu : Tx} {pos p apos cpos : Pos} {st : Stmt} {rest : List Stmt} {f1 f2 : Sx}
theorem es_add {nw : List Dt → Sto → Out Dt} (n : IsNw nw) (ha : ES J X W a fa) (hb : ES J X W b fb) : ES J X W (.BinOp a .Add b pos) (eOp (dAdd nw) fa fb) :=
  es_op (OpR.or op_add (OpR.or op_add_str (OpR.or op_catA op_cat))) (dAdd_ok n) ha hb
/-! ### methods of built-ins -/
def isLst (s : Sto) (d : Dt) : Bool := (asL s d).isSome
def isStr (_ : Sto) (d : Dt) : Bool := match d with
  | .str _ => true
  | _ => false
def TyS (Γ : Wd) (T : String) (ty : Sto → Dt → Bool) : Prop := ∀ ρ F s H x d, G Γ ρ F s H → Den Γ ρ F d x → ty s d = true → tyV Γ.K T x H
theorem ty_lst {Γ : Wd} : TyS Γ "list" isLst := by
  intro ρ F s H x d g r h
  unfold isLst at h
  obtain ⟨l, e⟩ := Option.isSome_iff_exists.mp h
  obtain ⟨a, xs, e1, q, _⟩ := g.sqL r e
  subst e1
  exact .inl ⟨rfl, xs, q⟩
theorem ty_str {Γ : Wd} : TyS Γ "str" isStr := by
  intro ρ F s H x d g r h
  cases d with
  | str z => simp only [Den] at r; obtain ⟨r, _⟩ := r; subst r; exact rfl
  | _ => exact Bool.noConfusion h
def M0S (Γ : Wd) (r : V → List V → Hp → VK → Prop) (op : Dt → Sto → Out Dt) : Prop := ∀ ρ F s H x dx Q E, G Γ ρ F s H → Den Γ ρ F dx x → EPo Γ ρ F H Q E (op dx s) → r x [] H Q
def M1S (Γ : Wd) (r : V → List V → Hp → VK → Prop) (op : Dt → Dt → Sto → Out Dt) : Prop := ∀ ρ F s H x y dx dy Q E, G Γ ρ F s H → Den Γ ρ F dx x → Den Γ ρ F dy y → EPo Γ ρ F H Q E (op dx dy s) → r x [y] H Q
/-- a method of a built-in, with one argument -/
def Bm1 (J : Cn) (X : Cx) (T : String) (name : Str) (ty : Sto → Dt → Bool) (op : Dt → Dt → Sto → Out Dt) : Prop := ∃ id r, PlainAttrs T ∧ Slot T name id ∧ typeOf (.builtin id) = pure (.type "method_descriptor") ∧ MtR X id r ∧ TyS (wd J X) T ty ∧ M1S (wd J X) r op
def eBm1 (ty : Sto → Dt → Bool) (op : Dt → Dt → Sto → Out Dt) (fo fe : Ex) : Ex := fun env => bnd (fo env) fun x s => if ty s x = true then bnd (fe env) (fun y => op x y) s else .bad
theorem es_bm1 {T : String} {name : Str} {ty : Sto → Dt → Bool} {op : Dt → Dt → Sto → Out Dt} (B : Bm1 J X T name ty op) (ho : ES J X W o fo) (he : ES J X W e fe)
    (hs : starEach (e :: []) X.env = (false, eval e X.env) :: starEach [] X.env := by rfl) (hbase : attributeBase o name X.env (eval o X.env) = eval o X.env := by rfl)
    (hfew : ((backTo cpos (starEach [e] X.env)).all (fun x => !x.1) && (backToKw cpos (keywordEach [] X.env)).all (fun x => x.1.isSome)
      && decide (([e] : List Expr).length + ([] : List Keyword).length + (if ([] : List Keyword).isEmpty then 0 else 1) < 30)) = true := by rfl)
    (hline : (apos.endLine == cpos.line) = true := by rfl) : ES J X W (.Call (.Attribute o name apos) [e] [] cpos) (eBm1 ty op fo fe) := by
  obtain ⟨id, r, pa, slot, hty, hm, tyS, opS⟩ := B
  exact PE.imp (pe_bm pa slot hty hm ho (pa_cons he pa_nil hs) hbase hfew hline hs rfl) fun σ H Q ⟨env, ρ, F, s, g, l, k⟩ => ⟨env, ρ, F, s, g, l, Po.bind k fun x s1 ρ1 F1 H1 v e1 l1 g1 r1 k1 => by
    split at k1
    · rename_i ht
      exact ⟨tyS ρ1 F1 s1 H1 v x g1 r1 ht, env, ρ1, F1, s1, g1, l.mono l1, Po.bind k1 fun y s2 ρ2 F2 H2 u e2 l2 g2 r2 k2 => opS ρ2 F2 s2 H2 v u x y Q _ g2 (Den.mono l2 _ _ r1) r2 k2⟩
    · exact False.elim k1⟩
def dApp (x y : Dt) (s : Sto) : Out Dt := match lstAt s x with
  | some (i, l) => if l.length < sizeLine then .ok .non (s.set i (.lst (l ++ [y]))) else .bad
  | none => .bad
theorem m_append : Bm1 J X "list" "append" isLst dApp := ⟨_, _, PySem.F.plainAttrs_list, PySem.F.slot_list_append, PySem.F.type_list_append, mt_append, ty_lst, fun ρ F s H x y dx dy Q E g rx ry k => by
  unfold dApp at k
  split at k
  · rename_i i l hl
    split at k
    · rename_i hz
      obtain ⟨a, xs, e1, hi, q, t, _⟩ := g.lat rx hl
      refine ⟨a, xs, y, e1, rfl, q, by rw [← t.length]; exact hz, k ρ F _ _ (LE.put (List.mem_of_getElem? hi)) (g.setL hi q (Dens.append t (Dens.one ry)) (by rw [List.length_append]; exact hz)) (by simp only [Den])⟩
    · exact False.elim k
  · exact False.elim k⟩
def dExt (x y : Dt) (s : Sto) : Out Dt := match lstAt s x with
  | some (i, l) => match trkL s y with
    | some m => if l.length + m.length ≤ sizeLine then .ok .non (s.set i (.lst (l ++ m))) else .bad
    | none => .bad
  | none => .bad
theorem m_extend : Bm1 J X "list" "extend" isLst dExt := ⟨_, _, PySem.F.plainAttrs_list, PySem.F.slot_list_extend, PySem.F.type_list_extend, mt_extend, ty_lst, fun ρ F s H x y dx dy Q E g rx ry k => by
  unfold dExt at k
  split at k
  · rename_i i l hl
    split at k
    · rename_i m hm
      split at k
      · rename_i hz
        obtain ⟨a, xs, e1, hi, q, t, _⟩ := g.lat rx hl
        obtain ⟨b, ys, e2, q2, t2, _⟩ := g.trk ry hm
        refine ⟨a, b, xs, ys, e1, by rw [e2], q, q2, by rw [← t.length, ← t2.length]; exact hz, k ρ F _ _ (LE.put (List.mem_of_getElem? hi)) (g.setL hi q (Dens.append t t2) (by rw [List.length_append]; exact hz)) (by simp only [Den])⟩
      · exact False.elim k
    · exact False.elim k
  · exact False.elim k⟩
/-- xs.pop(k) -/
def dPopAt (x y : Dt) (s : Sto) : Out Dt := match y with
  | .int k => match lstAt s x with
    | some (i, l) => match ixN l.length k with
      | some j => match l[j]? with
        | some d => .ok d (s.set i (.lst (l.eraseIdx j)))
        | none => .bad
      | none => .bad
    | none => .bad
  | _ => .bad
theorem m_popAt : Bm1 J X "list" "pop" isLst dPopAt := ⟨_, _, PySem.F.plainAttrs_list, PySem.F.slot_list_pop, PySem.F.type_list_pop, mt_popAt, ty_lst, fun ρ F s H x y dx dy Q E g rx ry k => by
  cases dy with
  | int n =>
    simp only [Den] at ry
    simp only [dPopAt] at k
    split at k
    · rename_i i l hl
      split at k
      · rename_i j hj
        split at k
        · rename_i d hd
          obtain ⟨a, xs, e1, hi, q, t, z⟩ := g.lat rx hl
          obtain ⟨v, hv, rv⟩ := t.get hd
          obtain ⟨s1, s2, s3, s4⟩ := ixN_seq hj
          have hlen : (l.length : Int) ≤ 16777216 := by rw [sizeLine_eq] at z; omega
          refine ⟨a, xs, n, j, v, e1, by rw [ry], q, by omega, by omega, by rw [← t.length]; exact s1, hv, k ρ F _ _ (LE.put (List.mem_of_getElem? hi)) (g.setL hi q (t.eraseIdx j) (Nat.le_trans (len_erase _ _) z)) rv⟩
        · exact False.elim k
      · exact False.elim k
    · exact False.elim k
  | _ => exact False.elim k⟩
/-- ints alone -/
def asI : List Dt → Option (List Int)
  | [] => some []
  | .int b :: r => (asI r).map (b :: ·)
  | _ => none
theorem asI_map : ∀ {l : List Dt} {ns : List Int}, asI l = some ns → l = ns.map Dt.int
  | [], ns, h => by simp only [asI, Option.some.injEq] at h; subst h; rfl
  | d :: l, ns, h => by
    cases d with
    | int i =>
      simp only [asI, Option.map_eq_some_iff] at h
      obtain ⟨r, e1, e2⟩ := h
      subst e2
      rw [asI_map e1]; rfl
    | _ => simp [asI] at h
theorem Dens.ints {Γ : Wd} {ρ : List Addr} {F : Hp} : ∀ {ns : List Int} {xs : List V}, Dens Γ ρ F (ns.map Dt.int) xs → xs = ns.map V.int
  | [], xs, h => by simp only [List.map_nil, Dens] at h; exact h
  | n :: ns, xs, h => by
    simp only [List.map_cons, Dens] at h
    obtain ⟨v, r, e1, q, t⟩ := h
    simp only [Den] at q
    rw [e1, q, Dens.ints t]; rfl
theorem densI {Γ : Wd} {ρ : List Addr} {F : Hp} : ∀ (ns : List Int), Dens Γ ρ F (ns.map Dt.int) (ns.map V.int)
  | [] => by simp only [List.map_nil, Dens]
  | n :: ns => by
    simp only [List.map_cons, Dens]
    exact ⟨_, _, rfl, by simp only [Den], densI ns⟩
/-- xs.remove(n), whole numbers, it is there -/
def dRem (x y : Dt) (s : Sto) : Out Dt := match y with
  | .int k => match lstAt s x with
    | some (i, l) => match asI l with
      | some ns => if k ∈ ns then .ok .non (s.set i (.lst ((ns.erase k).map .int))) else .bad
      | none => .bad
    | none => .bad
  | _ => .bad
theorem erase_ix {ns : List Int} {k : Int} (h : k ∈ ns) : ∃ j : Nat, ns[j]? = some k ∧ (∀ m : Nat, m < j → ns[m]? ≠ some k) ∧ ns.eraseIdx j = ns.erase k := by
  induction ns with
  | nil => simp at h
  | cons a r ih =>
    by_cases e : a = k
    · subst e
      exact ⟨0, rfl, fun m hm => absurd hm (Nat.not_lt_zero _), by simp⟩
    · have hr : k ∈ r := by
        rcases List.mem_cons.mp h with h | h
        · exact absurd h.symm e
        · exact h
      obtain ⟨j, h1, h2, h3⟩ := ih hr
      refine ⟨j + 1, by simpa using h1, fun m hm => ?_, ?_⟩
      · cases m with
        | zero => simpa using e
        | succ m => simpa using h2 m (by omega)
      · rw [List.eraseIdx_cons_succ, h3, List.erase_cons, if_neg (by simpa using e)]
theorem m_remove : Bm1 J X "list" "remove" isLst dRem := ⟨_, _, PySem.F.plainAttrs_list, PySem.F.slot_list_remove, PySem.F.type_list_remove, mt_remove, ty_lst, fun ρ F s H x y dx dy Q E g rx ry k => by
  cases dy with
  | int n =>
    simp only [Den] at ry
    simp only [dRem] at k
    split at k
    · rename_i i l hl
      split at k
      · rename_i ns hn
        split at k
        · rename_i hm
          obtain ⟨a, xs, e1, hi, q, t, z⟩ := g.lat rx hl
          have el := asI_map hn
          subst el
          have ex := t.ints
          subst ex
          obtain ⟨j, h1, h2, h3⟩ := erase_ix hm
          refine ⟨a, ns, n, j, e1, by rw [ry], q, h1, h2, ?_⟩
          rw [h3]
          exact k ρ F _ _ (LE.put (List.mem_of_getElem? hi)) (g.setL hi q (densI _) (by
            rw [List.length_map] at z ⊢
            exact Nat.le_trans (List.length_erase_le) z)) (by simp only [Den])
        · exact False.elim k
      · exact False.elim k
    · exact False.elim k
  | _ => exact False.elim k⟩
/-! ### isinstance(x, T), T a built-in class -/
def tyN (s : Sto) : Dt → Option String
  | .non => some "NoneType"
  | .bl _ => some "bool"
  | .int _ => some "int"
  | .str _ => some "str"
  | .tup _ => some "tuple"
  | .lst _ => some "list"
  | .lsk _ => some "list"
  | .obj i => match s[i]? with
    | some (.lst _) => some "list"
    | some (.dic _) => some "dict"
    | some (.dit _) => some "dict"
    | some (.dicL _) => some "dict"
    | _ => none
  | .exc _ => none
theorem G.ty {Γ : Wd} {ρ : List Addr} {F H : Hp} {s : Sto} (g : G Γ ρ F s H) {d : Dt} {v : V} {T : String} (r : Den Γ ρ F d v) (h : tyN s d = some T) : TyX Γ.K H v (.type T) := by
  cases d with
  | non => simp only [Den] at r; simp only [tyN, Option.some.injEq] at h; subst r; subst h; exact .base .non
  | bl b => simp only [Den] at r; simp only [tyN, Option.some.injEq] at h; subst r; subst h; exact .base (.bl b)
  | int i => simp only [Den] at r; simp only [tyN, Option.some.injEq] at h; subst r; subst h; exact .base (.int i)
  | str x => simp only [Den] at r; simp only [tyN, Option.some.injEq] at h; obtain ⟨r, _⟩ := r; subst r; subst h; exact .base (.str x)
  | tup l =>
    simp only [Den] at r; simp only [tyN, Option.some.injEq] at h
    obtain ⟨z, a, xs, e, q, t⟩ := r
    subst e; subst h
    exact .base (.tup (g.sub _ _ q))
  | lst l =>
    simp only [Den] at r; simp only [tyN, Option.some.injEq] at h
    obtain ⟨z, a, xs, e, q, t⟩ := r
    subst e; subst h
    exact .base (.lst (g.sub _ _ q))
  | lsk l =>
    simp only [Den] at r; simp only [tyN, Option.some.injEq] at h
    obtain ⟨z, a, xs, e, q, t⟩ := r
    subst e; subst h
    rcases sqL_sub g.sub q with (q | ⟨o, q⟩) | ⟨o, its, n, hk, hc, _⟩
    · exact .base (.lst q)
    · exact .base (.frz q)
    · exact .kList hk hc
  | obj i =>
    simp only [Den] at r
    obtain ⟨a, e, q⟩ := r
    subst e
    simp only [tyN] at h
    split at h
    · rename_i l hs
      cases h
      obtain ⟨z, xs, hx, t⟩ := g.at_ i a _ q hs
      exact .base (.lst hx)
    · rename_i l hs
      cases h
      obtain ⟨z, xs, hx, t⟩ := g.at_ i a _ q hs
      exact .base (.dK hx)
    · rename_i l hs
      cases h
      obtain ⟨z, xs, hx, t⟩ := g.at_ i a _ q hs
      exact .base (.dT hx)
    · rename_i l hs
      cases h
      obtain ⟨z, od, xs, hx, t⟩ := g.at_ i a _ q hs
      exact .fDict hx.1
    · cases h
  | exc c => simp [tyN] at h
def dIsi (T : String) (d : Dt) (s : Sto) : Out Dt := ofO s ((tyN s d).map fun t => .bl (t == T || (t == "bool" && T == "int")))
/-- of these classes it is known whose heirs they are -/
def kitAll (T : String) : Bool := ["NoneType", "bool", "int", "str", "tuple", "list", "dict"].all fun t => kitB t T == some (t == T || (t == "bool" && T == "int"))
theorem tyN_in {s : Sto} {d : Dt} {t : String} (h : tyN s d = some t) : t ∈ ["NoneType", "bool", "int", "str", "tuple", "list", "dict"] := by
  cases d with
  | obj i =>
    simp only [tyN] at h
    split at h <;> first | (cases h; decide) | cases h
  | exc c => simp [tyN] at h
  | _ => simp only [tyN, Option.some.injEq] at h; subst h; decide
theorem es_isi {T : Str} {n : String} {p2 : Pos} (hk : kitAll n = true) (hg : Gl X "isinstance") (hm : X.mg "isinstance" = none) (hgT : Gl X T) (hmT : X.mg T = none) (hv : bootBuiltins T = some (.type n)) (ha : ES J X W e fe)
    (hn : T ≠ "__name__" := by decide) (hd : (T == ("__debug__" : Str)) = false := by decide)
    (he : starEach [e, .Name T p2] X.env = [(false, eval e X.env), (false, eval (.Name T p2) X.env)] := by rfl) : ES J X W (.Call (.Name "isinstance" p) [e, .Name T p2] [] pos) (eUn (dIsi n) fe) :=
  PE.imp (pe_callB call_isi hg hm (by decide +kernel) (pa_cons ha (pa_cons (pe_bltn (v := .ty n) hgT hmT hv rfl hn hd) pa_nil rfl) (by exact he)) (by decide) (by decide) (by exact he) rfl) fun σ H Q ⟨env, ρ, F, s, g, l, k⟩ => ⟨env, ρ, F, s, g, l, Po.bind k fun x s1 ρ1 F1 H1 v e1 l1 g1 r1 k1 => by
    obtain ⟨d, e3, k1⟩ := Po.ofO k1
    obtain ⟨t, e4, e5⟩ := Option.map_eq_some_iff.mp e3
    subst e5
    have hq := (List.all_eq_true.mp hk) t (tyN_in e4)
    refine ⟨v, .ty n, .type t, .type n, _, rfl, .ty n, g1.ty r1 e4, kit_ty (by simpa using hq), k1 ρ1 F1 H1 _ LE.refl g1 (by simp only [Den])⟩⟩
/-! ### raise X('..') -/
def sRaise (c : Nat) : Sx := fun env s => .exc c env s
theorem ss_raise {z : Bool} {c : Nat} {x m : Str} {C : Addr} {bmB : List Value} {B newId initId : String} {j : Nat} {p p2 pos pos' : Pos} (hJ : (J c).1 = x) (hc : X.calm = true) (tk : Tks z X W) (Fx : ExcBaseFacts B newId initId bmB) (q : PySem.W.excIn X.K C bmB newId = true) (gC : X.mg x = some (.ref C)) (kC : PySem.W.keepIn X.K (.ref C) = true) (r : Raises X (.ref C)) (hg : Gl X x)
    (hdb : (x == ("__debug__" : Str)) = false := by decide) : SS J X W (.Raise (some (.Call (.Name x p) [.Constant (.str m) j p2] [] pos)) none pos') (sRaise c) := by
  have k : ∀ D σ H, tS (wd J X) W (sRaise c) D σ H → W (.ref C) none σ H := fun D σ H ⟨env, ρ, F, s, g, l, k⟩ => k ρ F H σ C LE.refl g l (by show X.mg (J c).1 = _; rw [hJ]; exact gC)
  match z, tk with
  | true, tk => exact PS.imp (L2N.ps_raise hc tk (L2N.pmk_own Fx q gC kC r hg hdb)) k
  | false, tk => exact PS.imp (L2.ps_raise hc tk (L2.pmk_own Fx q gC kC r hg hdb)) k
end
end Pd
namespace Pd
open PySem L2
/-! ### a caught error that is kept -/
theorem exH_ok {P : Program} {w : World} {H : Hp} {h : Heap} {C a : Addr} {oe : Obj} {vs : Array Value} (e : h.get? a = some oe) (z : Zc (.ref C) none oe) (d : oe.data = .fields vs) : ObjOk P w H h a (ExH C a) :=
  ⟨⟨oe, vs, e, z, d⟩, ⟨oe, e⟩, fun _ _ ⟨o, v, q, r⟩ k => ⟨o, v, k o q, r⟩⟩
/-- an object of the body's own time comes to be tracked -/
theorem Inv.track {X : Cx} {pins : List (Addr × Obj)} {σ : St} {H : Hp} {s : Shared} {C a : Addr} {oe : Obj} {vs : Array Value} (I : Inv X pins σ H s) (he : s.heap.get? a = some oe) (hz : Zc (.ref C) none oe) (hd : oe.data = .fields vs) (na : H a = none)
    (n0 : X.s_0.heap.get? a = none) (nL : a ≠ X.env.locals) (np : ∀ p ∈ X.pn ++ pins, p.1 ≠ a) : Inv X pins σ (upd H a (ExH C a)) s where
  ok := I.ok
  os := I.os
  bare := I.bare
  base :=
    { keep := I.base.keep
      slot := I.base.slot
      free := fun b o q n x => by rw [upd_ne (fun z => by rw [z, n0] at q; cases q)]; exact I.base.free b o q n x
      there := I.base.there
      tups := fun b xs q => by have z := I.base.tups b xs q; rw [upd_ne (ne_of_none z na)]; exact z
      frzs := fun b o u q => by have z := I.base.frzs b o u q; rw [upd_ne (ne_of_none z na)]; exact z
      tbls := fun b ps q => by obtain ⟨m, z⟩ := I.base.tbls b ps q; exact ⟨m, by rw [upd_ne (ne_of_none z na)]; exact z⟩ }
  loc := I.loc
  cell := I.cell
  free := by rw [upd_ne (Ne.symm nL)]; exact I.free
  freeC := fun x c h => by
    obtain ⟨v, o, q1, q2⟩ := I.cell x c h
    rw [upd_ne (fun z => by
      rw [z, he] at q1
      cases q1
      rw [hd] at q2
      cases q2)]
    exact I.freeC x c h
  pin := fun p h => by
    obtain ⟨h1, h2, h3⟩ := I.pin p h
    exact ⟨h1, by rw [upd_ne (np p h)]; exact h2, h3⟩
  hok := fun b o q => by
    by_cases e : b = a
    · subst e
      rw [upd_same] at q
      cases q
      exact exH_ok he hz hd
    · rw [upd_ne e] at q
      exact (I.hok b o q).stay (fun _ _ _ z => z) (fun c z => by rw [upd_ne (ne_of_none z na)]; exact z) fun c xs z => by rw [upd_ne (ne_of_none z na)]; exact z
  len := I.len
/-- what is wanted of an error that a clause takes and whose object stays behind -/
def wKept (K : PySem.W.Frag) (c : Value) (i : Nat) (ts : Addr → Value → Option Addr → TS) (D : Ends) : WX := fun cls d σ H =>
  PySem.W.exmOne K cls c = some true ∧ ∃ C, cls = .ref C ∧ d = none ∧ ∀ a, H a = none → ts a cls d { nx := fun σ' H' => H' a = none → D.nx (σ'.set i none) (upd H' a (ExH C a)), rt := fun _ _ => False, bk := fun _ _ => False, ct := fun _ _ => False } (σ.set i (some (.ref a))) H
section
variable {X : Cx} {x n : Str} {c : Value} {i : Nat} {body suite : List Stmt} {b0 : Stmt} {np pos pos' : Pos} {tb : WX → TS} {ts : Addr → Value → Option Addr → TS}
/-- from the catch on -/
theorem catch_kept (hs : X.stack = X.env :: X.outer) (hf : X.env.frame = some X.env.locals) (hN : X.N.Nodup) (hi : X.N[i]? = some n) (hln : X.env.kindOf n = some .local) (hc : Names X x c) (hex : X.ex = [])
    (hsu : ∀ (a : Addr) (oe : Obj) (cls : Value) (d : Option Addr) (pn : List (Addr × Obj)), Zc cls d oe → (∃ vs, oe.data = .fields vs) → PSs (X.suite a ((a, oe) :: pn)) (b0 :: suite) (ts a cls d))
    {pins : List (Addr × Obj)} {D : Ends} {u : Value} {s' : Shared} {xe : Value → Shared → Prop} (ok : X.Ok) (q : L2.XE (X.tr (X.pn ++ pins) xe) (wKept X.K c i ts D) u s') :
    wpAny (model X.prog X.w) X.A (noteFrame u X.env) (fun _ s2 => wpAny (model X.prog X.w) X.A (setFlight u none) (fun _ s3 =>
      wpAny (model X.prog X.w) X.A (handleBy u X.env [.ExceptHandler (some (.Name x np)) (some n) (b0 :: suite) pos']) (SP X pins D) X.xe s3) X.xe s2) X.xe s' := by
  obtain ⟨a, B, sI, pins', σ1, H1, cls, d, eu, I', nb, up, sky, na, os, ag, hm, C, ec, ed, hts⟩ := q
  subst eu; subst ec; subst ed
  have I1 : Inv X pins σ1 H1 sI := I'.ofTry ok
  have hfr : X.A.frames = some (X.env :: X.outer) := by rw [ok.frames, hs]
  rw [show (X.tr (X.pn ++ pins) xe).stack = X.env :: X.outer from hs] at sky
  refine Sky.land Zc.steady hfr hf sky fun h3 fl3 up3 => ?_
  have I3 : Inv X pins σ1 H1 { s' with heap := h3 } := I1.landed nb fl3.1 (up.trans up3) os ag
  obtain ⟨oe3, vs3, he3, hz3, hd3⟩ := fl3.there
  have nfr : a ∉ frs (X.env :: X.outer) := fun z => by
    obtain ⟨_, o, e1, e2⟩ := (fl3.2.2.1).mem z
    rw [he3] at e1
    cases e1
    exact e2 _ hd3
  have nL : a ≠ X.env.locals := fun z => nfr (List.mem_filterMap.mpr ⟨X.env, List.mem_cons_self, by rw [hf, z]⟩)
  have nF : a ∉ X.fs := fun z => by
    obtain ⟨e, h1, h2⟩ := List.mem_filterMap.mp z
    exact nfr (List.mem_filterMap.mpr ⟨e, List.mem_cons_of_mem _ h1, h2⟩)
  have nB : B.get? a = none := fl3.2.1
  have nst : a ∉ frs X.stack := by rw [hs]; exact nfr
  -- it was made behind the entry, and is none of the pins
  have n0 : X.s_0.heap.get? a = none := by
    cases e : X.s_0.heap.get? a with
    | none => rfl
    | some o =>
      obtain ⟨o', e'⟩ := I1.base.there a o e (by rw [hex]; exact List.not_mem_nil)
      rw [nb a o' e' nst] at nB
      cases nB
  have npin : ∀ p ∈ X.pn ++ pins, p.1 ≠ a := fun p hp z => by
    obtain ⟨e1, _, e2, e3, _⟩ := I1.pin p hp
    rw [z] at e1
    have := nb a p.2 e1 nst
    rw [nB] at this
    cases this
  have S3 := I3.suite he3 hd3 na nL nF
  refine wpAny_handleBy_cons (codeAny_handlers_test ?_) (by intro q; cases q)
  have looks : PySem.W.Looks (model X.prog X.w) h3 (typeOf (.ref a)) (.ref C) := fun A Q E s k q => wpAny_typeOf_ref (k _ _ he3) (by rw [hz3.1]; exact q)
  have hit := PySem.W.exm_one (M := model X.prog X.w) I3.kIn looks hm
  have cond : ∀ {Q : Value → Shared → Prop} {E : Value → Shared → Prop}, Q c { s' with heap := h3 } → wpAny (model X.prog X.w) (X.A.mark (some (.ref a))) (eval (.Name x np) X.env) Q E { s' with heap := h3 } := fun {Q E} q => by
    obtain ⟨g1, g2, g3⟩ := hc
    rcases g3 with g3 | ⟨g3, g4, g5⟩
    · exact ld_glob (X := X.suite a ((a, oe3) :: (X.pn ++ pins))) S3 g1 g3 q g2
    · exact ld_blt (X := X.suite a ((a, oe3) :: (X.pn ++ pins))) S3 g1 g3 g4 q g5 g2
  refine cond (hit.here (codeAny_handlers_suite_as (HandSPX.lands_againZ fl3 fun h4 fl4 up4 => ?_)))
  have I4 : Inv X pins σ1 H1 { s' with heap := h4 } := I1.landed nb fl4.1 ((up.trans up3).trans up4) os ag
  obtain ⟨oe4, vs4, he4, hz4, hd4⟩ := fl4.there
  have S4 := I4.suite he4 hd4 na nL nF
  refine store_ok (X := X.suite a ((a, oe4) :: (X.pn ++ pins))) (v := .ref a) S4 hN hi (.inl hln) rfl (fun s5 S5 => ?_) (.inr hln)
  refine wpAny_mono ((hsu a oe4 (.ref C) none (X.pn ++ pins) hz4 ⟨_, hd4⟩).run [] s5 _ H1 _ S5 (hts a na)) (fun f s6 r => ?_) (fun _ _ z => False.elim z)
  cases f with
  | next =>
    obtain ⟨σ6, H6, S6, q6⟩ := r
    obtain ⟨p1, p2, _⟩ := S6.pin (a, oe4) (List.mem_append_left _ List.mem_cons_self)
    have I6 : Inv X pins σ6 H6 s6 := S6.unsuite ok
    exact gone_ok (Inv.track I6 p1 hz4 hd4 p2 n0 nL npin) hN hi hln fun s7 I7 => ⟨_, _, I7, q6 p2⟩
  | brk => obtain ⟨_, _, _, z⟩ := r; exact False.elim z
  | cont => obtain ⟨_, _, _, z⟩ := r; exact False.elim z
  | ret v => obtain ⟨_, _, _, _, _, z⟩ := r; exact False.elim z
theorem ps_try_kept (hs : X.stack = X.env :: X.outer) (hf : X.env.frame = some X.env.locals) (hN : X.N.Nodup) (hi : X.N[i]? = some n) (hln : X.env.kindOf n = some .local) (hc : Names X x c) (hex : X.ex = [])
    (hb : ∀ (W : WX) (pn : List (Addr × Obj)) (xe : Value → Shared → Prop), Takes (X.tr pn xe) W → PassesOwn (model X.prog X.w) X.A X.env xe → PSs (X.tr pn xe) body (tb W))
    (hsu : ∀ (a : Addr) (oe : Obj) (cls : Value) (d : Option Addr) (pn : List (Addr × Obj)), Zc cls d oe → (∃ vs, oe.data = .fields vs) → PSs (X.suite a ((a, oe) :: pn)) (b0 :: suite) (ts a cls d)) :
    PS X (.Try body [.ExceptHandler (some (.Name x np)) (some n) (b0 :: suite) pos'] [] [] pos) (fun D σ H => tb (wKept X.K c i ts D) D σ H) := by
  refine ⟨fun pins s σ H D I h => wpAny_Try_except ?_⟩
  have ok := I.ok
  refine wpAny_mono ((hb _ (X.pn ++ pins) _ (fun u s' q => ?_) PassesOwn.looking).run [] s σ H D (I.toTry _) h) (fun f s1 r => ?_) (fun e s1 he => he)
  · exact catch_kept hs hf hN hi hln hc hex hsu ok q
  · cases f with
    | next => obtain ⟨σ1, H1, J1, q⟩ := r; exact wpAny_execs_nil ⟨σ1, H1, J1.ofTry ok, q⟩
    | brk => obtain ⟨σ1, H1, J1, q⟩ := r; exact ⟨σ1, H1, J1.ofTry ok, q⟩
    | cont => obtain ⟨σ1, H1, J1, q⟩ := r; exact ⟨σ1, H1, J1.ofTry ok, q⟩
    | ret v => obtain ⟨v1, σ1, H1, J1, rv, q⟩ := r; exact ⟨v1, σ1, H1, J1.ofTry ok, rv, q⟩
end
end Pd
namespace Pd
open PySem L2
/-! ### texts as lists of codes -/
abbrev mkS (l : List Nat) : Str := ⟨l.toArray⟩
def splC (c : Nat) : List Nat → List (List Nat)
  | [] => [[]]
  | x :: r => if x = c then [] :: splC c r else match splC c r with
    | [] => [[x]]
    | h :: t => (x :: h) :: t
theorem splC_ne (c : Nat) : ∀ l, splC c l ≠ []
  | [] => by simp [splC]
  | x :: r => by
    unfold splC
    split
    · simp
    · split <;> simp
theorem splC_hit {c : Nat} (r : List Nat) : splC c (c :: r) = [] :: splC c r := by
  rw [splC, if_pos rfl]
theorem splC_miss {c x : Nat} (r : List Nat) (h : x ≠ c) : ∃ p t, splC c r = p :: t ∧ splC c (x :: r) = (x :: p) :: t := by
  rw [splC, if_neg h]
  cases e : splC c r with
  | nil => exact absurd e (splC_ne c r)
  | cons p t => exact ⟨p, t, rfl, rfl⟩
theorem spl_splC (c : Nat) : ∀ (l acc p : List Nat) (t : List (List Nat)), splC c l = p :: t → TL.spl [c] 0 acc l = (acc ++ p) :: t
  | [], acc, p, t, h => by
    simp only [splC, List.cons.injEq] at h
    obtain ⟨h1, h2⟩ := h
    subst h1; subst h2
    rw [TL.spl_nil, List.append_nil]
  | x :: r, acc, p, t, h => by
    by_cases hx : x = c
    · subst hx
      rw [splC_hit, List.cons.injEq] at h
      obtain ⟨h1, h2⟩ := h
      subst h1
      rw [TL.spl_hit (by simp [TL.pre]), List.append_nil]
      cases e : splC x r with
      | nil => exact absurd e (splC_ne x r)
      | cons q u =>
        have ih := spl_splC x r [] q u e
        rw [List.nil_append] at ih
        rw [← h2, e]
        exact congrArg _ ih
    · obtain ⟨q, u, e1, e2⟩ := splC_miss r hx
      rw [e2, List.cons.injEq] at h
      obtain ⟨h1, h2⟩ := h
      subst h1; subst h2
      rw [TL.spl_miss (by simp [TL.pre, hx]), spl_splC c r (acc ++ [x]) q u e1, List.append_assoc]
      rfl
theorem spl_eq (c : Nat) (l : List Nat) : TL.spl [c] 0 [] l = splC c l := by
  cases e : splC c l with
  | nil => exact absurd e (splC_ne c l)
  | cons p t => rw [spl_splC c l [] p t e, List.nil_append]
theorem split_C {a b : Str} {c : Nat} (h : b.cps.toList = [c]) (hc : c < 256) : Txt.split a b = (splC c a.cps.toList).map mkS := by
  have e := TL.split_spl a b (by rw [show TL.tl b = [c] from h]; simp) (TL.kind_ok (by rw [← Array.all_toList, h]; simpa using hc))
  rw [show TL.tl b = [c] from h, spl_eq] at e
  apply TL.map_tl_inj
  rw [e, List.map_map]
  have : (TL.tl ∘ mkS) = id := by funext l; rfl
  rw [this, List.map_id]
theorem splC_len (c : Nat) : ∀ l, (splC c l).length ≤ l.length + 1
  | [] => by simp [splC]
  | x :: r => by
    have ih := splC_len c r
    by_cases hx : x = c
    · subst hx; rw [splC_hit]; simp; omega
    · obtain ⟨q, u, e1, e2⟩ := splC_miss r hx
      rw [e2]; rw [e1] at ih; simp at ih ⊢; omega
theorem splC_mem (c : Nat) : ∀ (l : List Nat), ∀ p ∈ splC c l, (∀ d ∈ p, d ∈ l) ∧ p.length ≤ l.length
  | [], p, h => by simp [splC] at h; subst h; simp
  | x :: r, p, h => by
    have ih := splC_mem c r
    by_cases hx : x = c
    · subst hx
      rw [splC_hit] at h
      rcases List.mem_cons.mp h with h | h
      · subst h; simp
      · obtain ⟨h1, h2⟩ := ih p h
        exact ⟨fun d hd => List.mem_cons_of_mem _ (h1 d hd), by simp; omega⟩
    · obtain ⟨q, u, e1, e2⟩ := splC_miss r hx
      rw [e2] at h
      rw [e1] at ih
      rcases List.mem_cons.mp h with h | h
      · subst h
        obtain ⟨h1, h2⟩ := ih q List.mem_cons_self
        refine ⟨fun d hd => ?_, by simp; omega⟩
        rcases List.mem_cons.mp hd with hd | hd
        · rw [hd]; exact List.mem_cons_self
        · exact List.mem_cons_of_mem _ (h1 d hd)
      · obtain ⟨h1, h2⟩ := ih p (List.mem_cons_of_mem _ h)
        exact ⟨fun d hd => List.mem_cons_of_mem _ (h1 d hd), by simp; omega⟩
theorem splC_free (c : Nat) : ∀ (l : List Nat), ∀ p ∈ splC c l, c ∉ p
  | [], p, h => by simp [splC] at h; subst h; simp
  | x :: r, p, h => by
    have ih := splC_free c r
    by_cases hx : x = c
    · subst hx
      rw [splC_hit] at h
      rcases List.mem_cons.mp h with h | h
      · subst h; simp
      · exact ih p h
    · obtain ⟨q, u, e1, e2⟩ := splC_miss r hx
      rw [e2] at h
      rw [e1] at ih
      rcases List.mem_cons.mp h with h | h
      · subst h
        intro hm
        rcases List.mem_cons.mp hm with hm | hm
        · exact hx hm.symm
        · exact ih q List.mem_cons_self hm
      · exact ih p (List.mem_cons_of_mem _ h)
theorem splC_join (c : Nat) {ps : List (List Nat)} (h : ps ≠ []) (hf : ∀ p ∈ ps, c ∉ p) : splC c (TL.joinL [c] ps) = ps := by rw [← spl_eq]; exact TL.spl_join h hf
theorem len_codes (x : Str) : x.length = x.cps.toList.length := TL.len_tl x
theorem sok_codes {l : List Nat} (h1 : ∀ c ∈ l, c < 0x110000) (h2 : l.length ≤ 1000000) : sok (mkS l) = true := sok_of h1 (by rw [len_codes]; exact h2)
theorem Dens.strs {Γ : Wd} {ρ : List Addr} {F : Hp} : ∀ {ys : List Str}, (∀ y ∈ ys, sok y = true) → Dens Γ ρ F (ys.map Dt.str) (ys.map V.str)
  | [], _ => by simp only [List.map_nil, Dens]
  | y :: ys, h => by
    simp only [List.map_cons, Dens]
    exact ⟨_, _, rfl, by simp only [Den]; exact ⟨trivial, h y List.mem_cons_self⟩, Dens.strs fun z hz => h z (List.mem_cons_of_mem _ hz)⟩
section
variable {J : Cn} {X : Cx} {W : WX} {a b c e e2 o tgt iter elt : Expr} {es ifs : List Expr} {fa fb fc fe fo fi fv : Ex} {fs : List Ex} {ft fu : Tx} {pos p apos cpos tpos : Pos} {st : Stmt} {rest : List Stmt} {f1 f2 : Sx}
/-- x.split(c), c one sign -/
def dSplit (nw : List Dt → Sto → Out Dt) (x y : Dt) (s : Sto) : Out Dt := match x with
  | .str a => match y with
    | .str b => match b.cps.toList with
      | [c] => if c < 256 then nw ((splC c a.cps.toList).map fun l => .str (mkS l)) s else .bad
      | _ => .bad
    | _ => .bad
  | _ => .bad
theorem m_split {nw : List Dt → Sto → Out Dt} (n : IsNw nw) : Bm1 J X "str" "split" isStr (dSplit nw) := ⟨_, _, PySem.F.plainAttrs_str, PySem.F.slot_str_split, PySem.F.type_str_split, mt_split, ty_str, fun ρ F s H x y dx dy Q E g rx ry k => by
  cases dx with
  | str a =>
    cases dy with
    | str b =>
      simp only [Den] at rx ry
      simp only [dSplit] at k
      split at k
      · rename_i c hc
        split at k
        · rename_i h256
          have hl := sok_le rx.2
          have hla : a.cps.toList.length ≤ 1000000 := by rw [← len_codes]; exact hl
          refine ⟨a, b, rx.1, by rw [ry.1], ?_, by rw [sizeLine_eq]; omega, fun p hp => ?_⟩
          · rw [len_codes, hc]; rfl
          · rw [split_C hc h256]
            have t : Dens (wd J X) ρ F (((splC c a.cps.toList).map mkS).map Dt.str) (((splC c a.cps.toList).map mkS).map V.str) := Dens.strs fun y hy => by
              obtain ⟨l, h1, h2⟩ := List.mem_map.mp hy
              obtain ⟨h3, h4⟩ := splC_mem c _ l h1
              rw [← h2]
              exact sok_codes (fun d hd => sok_mem rx.2 (h3 d hd)) (Nat.le_trans h4 hla)
            have hz : (((splC c a.cps.toList).map mkS).map Dt.str).length ≤ sizeLine := by
              have := splC_len c a.cps.toList
              rw [List.length_map, List.length_map, sizeLine_eq]; omega
            refine new_lst (E := E) n g t hz hp ?_
            rw [List.map_map]
            exact k
        · exact False.elim k
      · exact False.elim k
    | _ => exact False.elim k
  | _ => exact False.elim k⟩
/-- texts alone -/
def asS : List Dt → Option (List Str)
  | [] => some []
  | .str b :: r => (asS r).map (b :: ·)
  | _ => none
theorem asS_map : ∀ (ys : List Str), asS (ys.map Dt.str) = some ys
  | [] => rfl
  | y :: ys => by simp only [List.map_cons, asS, asS_map ys, Option.map_some]
theorem Dens.texts {Γ : Wd} {ρ : List Addr} {F : Hp} : ∀ {l : List Dt} {xs : List V} {ys : List Str}, Dens Γ ρ F l xs → asS l = some ys → xs = ys.map V.str ∧ ∀ y ∈ ys, sok y = true
  | [], xs, ys, h, e => by simp only [Dens] at h; simp only [asS, Option.some.injEq] at e; subst e; exact ⟨h, fun _ h => nomatch h⟩
  | d :: l, xs, ys, h, e => by
    simp only [Dens] at h
    obtain ⟨v, r, e1, q, t⟩ := h
    cases d with
    | str b =>
      simp only [asS, Option.map_eq_some_iff] at e
      obtain ⟨ys', e2, e3⟩ := e
      simp only [Den] at q
      obtain ⟨h1, h2⟩ := Dens.texts t e2
      subst e3; subst e1
      rw [q.1, h1]
      refine ⟨rfl, fun y hy => ?_⟩
      rcases List.mem_cons.mp hy with hy | hy
      · rw [hy]; exact q.2
      · exact h2 y hy
    | _ => simp [asS] at e
/-- sep.join(..) -/
def dJoin (x y : Dt) (s : Sto) : Out Dt := match x with
  | .str a => match (asQ s y).bind asS with
    | some ys => if (ys.map (·.length)).sum + ys.length * a.length ≤ 1000000 then .ok (.str (mkS (TL.joinL a.cps.toList (ys.map (·.cps.toList))))) s else .bad
    | none => .bad
  | _ => .bad
theorem joinL_mem {S : List Nat} : ∀ {ps : List (List Nat)} {c : Nat}, c ∈ TL.joinL S ps → c ∈ S ∨ ∃ p ∈ ps, c ∈ p
  | [], c, h => by simp [TL.joinL] at h
  | [p], c, h => .inr ⟨p, List.mem_cons_self, h⟩
  | p :: q :: r, c, h => by
    simp only [TL.joinL, List.mem_append] at h
    rcases h with h | h | h
    · exact .inr ⟨p, List.mem_cons_self, h⟩
    · exact .inl h
    · rcases joinL_mem h with h | ⟨z, h1, h2⟩
      · exact .inl h
      · exact .inr ⟨z, List.mem_cons_of_mem _ h1, h2⟩
theorem joinL_len {S : List Nat} : ∀ (ps : List (List Nat)), (TL.joinL S ps).length ≤ (ps.map (·.length)).sum + ps.length * S.length
  | [] => by simp [TL.joinL]
  | [p] => by simp [TL.joinL]
  | p :: q :: r => by
    have ih := joinL_len (S := S) (q :: r)
    simp only [TL.joinL, List.length_append, List.map_cons, List.sum_cons, List.length_cons] at ih ⊢
    rw [Nat.succ_mul (r.length + 1)]
    omega
theorem m_join : Bm1 J X "str" "join" isStr dJoin := ⟨_, _, PySem.F.plainAttrs_str, PySem.F.slot_str_join, PySem.F.type_str_join, mt_join, ty_str, fun ρ F s H x y dx dy Q E g rx ry k => by
  cases dx with
  | str a =>
    simp only [Den] at rx
    simp only [dJoin] at k
    split at k
    · rename_i ys hys
      split at k
      · rename_i hz
        obtain ⟨l, e1, e2⟩ := Option.bind_eq_some_iff.mp hys
        obtain ⟨ad, xs, e3, q, t, _⟩ := g.sqQ ry e1
        obtain ⟨e4, hs⟩ := t.texts e2
        subst e4
        have ej : Txt.join a ys = mkS (TL.joinL a.cps.toList (ys.map (·.cps.toList))) := by
          apply TL.ext_tl
          rw [TL.join_eq, TL.tl_join]
        refine ⟨a, ad, ys, rx.1, by rw [e3], q, by omega, ?_⟩
        rw [ej]
        refine k ρ F H _ LE.refl g ?_
        simp only [Den]
        refine ⟨trivial, sok_codes (fun c hc => ?_) ?_⟩
        · rcases joinL_mem hc with h | ⟨p, h1, h2⟩
          · exact sok_mem rx.2 h
          · obtain ⟨z, h3, h4⟩ := List.mem_map.mp h1
            rw [← h4] at h2
            exact sok_mem (hs z h3) h2
        · have h1 := joinL_len (S := a.cps.toList) (ys.map (·.cps.toList))
          rw [List.map_map, List.length_map, ← len_codes] at h1
          have h2 : (ys.map ((fun x => x.length) ∘ fun x : Str => x.cps.toList)) = ys.map (·.length) := List.map_congr_left fun z _ => (len_codes z).symm
          rw [h2] at h1
          omega
      · exact False.elim k
    · exact False.elim k
  | _ => exact False.elim k⟩
/-- x.startswith(y) -/
def dStarts (x y : Dt) (s : Sto) : Out Dt := match x with
  | .str a => match y with
    | .str b => .ok (.bl (TL.pre b.cps.toList a.cps.toList)) s
    | _ => .bad
  | _ => .bad
theorem starts_pre (a b : Str) : Txt.startswith a b = TL.pre b.cps.toList a.cps.toList := by
  unfold Txt.startswith
  rw [StrLaws.subAt_eq, List.drop_zero]
  have e : (a.cps.toList.take b.length == b.cps.toList) = TL.pre b.cps.toList a.cps.toList := by unfold TL.pre; rw [len_codes]
  rw [e]
  cases h : TL.pre b.cps.toList a.cps.toList with
  | false => rw [Bool.and_false]
  | true =>
    have h1 := eq_of_beq h
    have h2 := congrArg List.length h1
    rw [List.length_take] at h2
    rw [Bool.and_true]
    refine decide_eq_true ?_
    rw [len_codes, len_codes]
    omega
theorem m_starts : Bm1 J X "str" "startswith" isStr dStarts := ⟨_, _, PySem.F.plainAttrs_str, PySem.F.slot_str_startswith, PySem.F.type_str_startswith, mt_startswith, ty_str, fun ρ F s H x y dx dy Q E g rx ry k => by
  cases dx with
  | str a =>
    cases dy with
    | str b =>
      simp only [Den] at rx ry
      refine ⟨a, b, rx.1, by rw [ry.1], ?_⟩
      rw [starts_pre]
      exact k ρ F H _ LE.refl g (by simp only [Den])
    | _ => exact False.elim k
  | _ => exact False.elim k⟩
/-- xs.index(y), flat things, it is there -/
def dIndex (x y : Dt) (s : Sto) : Out Dt := match asL s x with
  | some l => if flatD y && l.all flatD then ofO s ((l.findIdx? fun e => feq e y).map fun (j : Nat) => .int j) else .bad
  | none => .bad
theorem m_index : Bm1 J X "list" "index" isLst dIndex := ⟨_, _, PySem.F.plainAttrs_list, PySem.F.slot_list_index, PySem.F.type_list_index, mt_index, ty_lst, fun ρ F s H x y dx dy Q E g rx ry k => by
  unfold dIndex at k
  split at k
  · rename_i l hl
    split at k
    · rename_i hf
      simp only [Bool.and_eq_true] at hf
      obtain ⟨d, e, k⟩ := Po.ofO k
      obtain ⟨j, e1, e2⟩ := Option.map_eq_some_iff.mp e
      subst e2
      obtain ⟨ad, xs, e3, q, t, _⟩ := g.sqL rx hl
      have e4 := t.flat hf.2
      have e5 := ry.flat hf.1
      obtain ⟨hj, h1, h2⟩ := List.findIdx?_eq_some_iff_getElem.mp e1
      have fl : ∀ (m : Nat) (hm : m < l.length), flatD l[m] = true := fun m hm => List.all_eq_true.mp hf.2 _ (List.getElem_mem hm)
      subst e4; subst e5
      refine ⟨ad, _, _, j, toVd l[j], e3, rfl, q, flatV_toVd _, all_flat_map _, by rw [List.getElem?_map, List.getElem?_eq_getElem hj]; rfl, by rw [eqV_toVd (fl j hj) hf.1]; exact h1, fun m z' hm hz => ?_, k ρ F H _ LE.refl g (by simp only [Den])⟩
      have hml : m < l.length := by omega
      rw [List.getElem?_map, List.getElem?_eq_getElem hml] at hz
      have hz2 : toVd l[m] = z' := Option.some.inj hz
      rw [← hz2, eqV_toVd (fl m hml) hf.1]
      simpa using h2 m hm
    · exact False.elim k
  · exact False.elim k⟩
/-! ### o[i] = v -/
def putAt (x y v : Dt) (s : Sto) : Option Sto := match y with
  | .int k => match lstAt s x with
    | some (i, l) => (ixN l.length k).map fun j => s.set i (.lst (l.set j v))
    | none => none
  | _ => none
def sSetI (fo fi fv : Ex) : Sx := fun env => sBnd (fv env) env fun v => sBnd (fo env) env fun x => sBnd (fi env) env fun y s => match putAt x y v s with
  | some s' => .fl (.nx env) s'
  | none => .bad
theorem ss_setI (ho : ES J X W o fo) (hi : ES J X W e fi) (hv : ES J X W e2 fv)
    (ha : ∀ v, assign (.Subscript o e tpos) X.env v = (do
      let ov ← holding [v] (eval o X.env)
      let iv ← holding [v, ov] (eval e X.env)
      standAt tpos
      holding [v, ov, iv] (setItem ov iv v)
      release [v, ov, iv] []) := by intro _; rfl)
    (hs : swapsWithSole [.Subscript o e tpos] e2 pos.line X.env = pure false := by rfl) (hw : swappedStores [.Subscript o e tpos] e2 X.env = pure none := by rfl)
    (h1 : (assignEach [.Subscript o e tpos] X.env).map (·.2) = [assign (.Subscript o e tpos) X.env] := by rfl) : SS J X W (.Assign [.Subscript o e tpos] e2 pos) (sSetI fo fi fv) :=
  PS.imp (ps_asg hv (pg_sub ho hi set_list ha) hs hw h1) fun D σ H ⟨env, ρ, F, s, g, l, k⟩ => ⟨env, ρ, F, s, g, l, FPo.bind k l fun v s1 ρ1 F1 H1 u e1 l1 g1 r1 k1 =>
    ⟨env, ρ1, F1, s1, g1, l.mono l1, FPo.bind k1 (l.mono l1) fun x s2 ρ2 F2 H2 ov e3 l2 g2 r2 k2 =>
      ⟨env, ρ2, F2, s2, g2, l.mono (l1.trans l2), FPo.bind k2 (l.mono (l1.trans l2)) fun y s3 ρ3 F3 H3 iv e4 l3 g3 r3 k3 => by
        cases ep : putAt x y v s3 with
        | none => rw [ep] at k3; exact False.elim k3
        | some s4 =>
          rw [ep] at k3
          cases y with
          | int n =>
            simp only [putAt] at ep
            split at ep
            · rename_i i xs hl
              obtain ⟨j, hj, ej⟩ := Option.map_eq_some_iff.mp ep
              subst ej
              obtain ⟨ad, vs, h1, h2, h3, h4, h5⟩ := g3.lat (Den.mono l3 _ _ r2) hl
              simp only [Den] at r3
              have hlen : xs.length = vs.length := h4.length
              refine ⟨ad, vs, n, j, h1, r3, h3, by rw [← hlen]; exact hj, ?_⟩
              exact k3 ρ3 F3 _ σ (LE.put (List.mem_of_getElem? h2)) (g3.setL h2 h3 (Dens.set (Den.mono (l2.trans l3) _ _ r1) j h4) (by rw [List.length_set]; exact h5)) (l.mono ((l1.trans l2).trans l3))
            · cases ep
          | _ => simp [putAt] at ep⟩⟩⟩
/-! ### recursion -/
def sBad : Sx := fun _ _ => .bad
theorem ss_bad {sts : List Stmt} : SSs J X W sts sBad := ⟨fun pins s σ H D I q => by obtain ⟨env, ρ, F, st, g, l, k⟩ := q; exact False.elim k⟩
end
end Pd
namespace Pd
open PySem L2
section
variable {J : Cn} {X : Cx} {W : WX} {a b c e e2 o tgt iter elt : Expr} {es ifs : List Expr} {fa fb fc fe fo fi fv : Ex} {fs : List Ex} {ft fu : Tx} {pos p p2 apos cpos tpos : Pos} {st : Stmt} {rest : List Stmt} {f1 f2 : Sx}
/-! ### isinstance of a caught error -/
def rIsX (K : PySem.W.Frag) : List V → Hp → VK → Prop := fun xs H Q => ∃ (a D : Addr) (c : V) (cv : Value) (b : Bool), xs = [.ref a, c] ∧ ClsV c cv ∧ H a = some (ExH D a) ∧ ExcC K D ∧ PySem.W.kitOne K (.ref D) cv = some b ∧ Q (.bl b) H
theorem call_isX : CallR X (.builtin "isinstance") (rIsX X.K) := by
  intro pins s σ H xs us Q I r h
  obtain ⟨a, D, c, cv, b, rfl, k, hH, C, e, q⟩ := h
  obtain ⟨u1, u2, rfl, r1, r2⟩ := vals2 r
  have e2 := k.eq r2
  subst e2
  cases (show u1 = Value.ref a from r1)
  obtain ⟨⟨oe, vs, hget, hz, hv⟩, _⟩ := I.hok a _ hH
  have J : PySem.W.InstAt s.heap a oe D none := by
    obtain ⟨oc, od, oda, osl⟩ := oe
    obtain ⟨h1, h2⟩ := hz
    dsimp only at h1 h2 hv
    subst h1 h2 hv
    exact ⟨hget, rfl, rfl, trivial⟩
  exact PySem.W.kia_one (PySem.W.handS_kitx_exc C.hg C.hk C.hs C.hd C.ha C.hn C.ht C.hm) I.kIn J e (fun z => nomatch z) fun tk => ⟨.bl b, H, I.kept (t' := tk) fun _ _ z => z, rfl, q⟩
/-- of which classes errors are instances of cv -/
def IsxF (J : Cn) (K : PySem.W.Frag) (mg : Str → Option Value) (tb : List (Nat × Bool)) (cv : Value) : Prop := ∀ n b, tb.lookup n = some b → ∀ C, mg (J n).1 = some (.ref C) → ExcC K C ∧ PySem.W.kitOne K (.ref C) cv = some b
theorem isx_nil {K : PySem.W.Frag} {mg : Str → Option Value} {cv : Value} : IsxF J K mg [] cv := fun n b h => by cases h
theorem isx_cons {K : PySem.W.Frag} {mg : Str → Option Value} {cv : Value} {n : Nat} {b : Bool} {tb : List (Nat × Bool)} {C : Addr} (hC : mg (J n).1 = some (.ref C)) (hE : ExcC K C) (hk : PySem.W.kitOne K (.ref C) cv = some b) (hr : IsxF J K mg tb cv) : IsxF J K mg ((n, b) :: tb) cv := fun m b' h C' hC' => by
  rw [List.lookup_cons] at h
  split at h
  · rename_i q
    have e := eq_of_beq q
    subst e
    cases h
    have z := hC.symm.trans hC'
    cases z
    exact ⟨hE, hk⟩
  · exact hr m b' h C' hC'
def dIsx (tb : List (Nat × Bool)) (d : Dt) (s : Sto) : Out Dt := match d with
  | .exc c => ofO s ((tb.lookup c).map .bl)
  | _ => .bad
theorem isx_of {tb : List (Nat × Bool)} {cv : Value} {c : V} (hcv : ClsV c cv) (hf : IsxF J X.K X.mg tb cv) {ρ : List Addr} {F H : Hp} {s : Sto} {x : V} {d : Dt} {Q : VK} {E : Value → Hp → Prop} (g : G (wd J X) ρ F s H) (r : Den (wd J X) ρ F d x) (k : EPo (wd J X) ρ F H Q E (dIsx tb d s)) : rIsX X.K [x, c] H Q := by
  cases d with
  | exc n =>
    simp only [Den] at r
    obtain ⟨ad, C, e1, hC, hF⟩ := r
    obtain ⟨d, e3, k1⟩ := Po.ofO k
    obtain ⟨t, e4, e5⟩ := Option.map_eq_some_iff.mp e3
    subst e5
    obtain ⟨hE, hk⟩ := hf n t e4 C hC
    exact ⟨ad, C, c, cv, t, by rw [e1], hcv, g.sub _ _ hF, hE, hk, k1 ρ F H _ LE.refl g (by simp only [Den])⟩
  | _ => exact False.elim k
theorem es_isx {T : Str} {C : Addr} {tb : List (Nat × Bool)} (hf : IsxF J X.K X.mg tb (.ref C)) (hg : Gl X "isinstance") (hm : X.mg "isinstance" = none) (hgT : Gl X T) (hmT : X.mg T = some (.ref C)) (ha : ES J X W e fe)
    (hd : (T == ("__debug__" : Str)) = false := by decide)
    (he : starEach [e, .Name T p2] X.env = [(false, eval e X.env), (false, eval (.Name T p2) X.env)] := by rfl) : ES J X W (.Call (.Name "isinstance" p) [e, .Name T p2] [] pos) (eUn (dIsx tb) fe) :=
  PE.imp (pe_callB call_isX hg hm (by decide +kernel) (pa_cons ha (pa_cons (pe_glob (v := .ref C) hgT hmT rfl hd) pa_nil rfl) (by exact he)) (by decide) (by decide) (by exact he) rfl) fun σ H Q ⟨env, ρ, F, s, g, l, k⟩ => ⟨env, ρ, F, s, g, l, Po.bind k fun x s1 ρ1 F1 H1 v e1 l1 g1 r1 k1 => isx_of (.own C) hf g1 r1 k1⟩
theorem es_isxT {T : Str} {n : String} {tb : List (Nat × Bool)} (hf : IsxF J X.K X.mg tb (.type n)) (hg : Gl X "isinstance") (hm : X.mg "isinstance" = none) (hgT : Gl X T) (hmT : X.mg T = none) (hv : bootBuiltins T = some (.type n)) (ha : ES J X W e fe)
    (hn : T ≠ "__name__" := by decide) (hd : (T == ("__debug__" : Str)) = false := by decide)
    (he : starEach [e, .Name T p2] X.env = [(false, eval e X.env), (false, eval (.Name T p2) X.env)] := by rfl) : ES J X W (.Call (.Name "isinstance" p) [e, .Name T p2] [] pos) (eUn (dIsx tb) fe) :=
  PE.imp (pe_callB call_isX hg hm (by decide +kernel) (pa_cons ha (pa_cons (pe_bltn (v := .ty n) hgT hmT hv rfl hn hd) pa_nil rfl) (by exact he)) (by decide) (by decide) (by exact he) rfl) fun σ H Q ⟨env, ρ, F, s, g, l, k⟩ => ⟨env, ρ, F, s, g, l, Po.bind k fun x s1 ρ1 F1 H1 v e1 l1 g1 r1 k1 => isx_of (.ty n) hf g1 r1 k1⟩
/-! ### try: .. except C as n: held = n -/
/-- errors of these classes are taken by the clause of cv -/
def XmF (J : Cn) (K : PySem.W.Frag) (mg : Str → Option Value) (tb : List Nat) (cv : Value) : Prop := ∀ n, n ∈ tb → ∀ C, mg (J n).1 = some (.ref C) → PySem.W.exmOne K (.ref C) cv = some true
theorem xm_nil {K : PySem.W.Frag} {mg : Str → Option Value} {cv : Value} : XmF J K mg [] cv := fun n h => nomatch h
theorem xm_cons {K : PySem.W.Frag} {mg : Str → Option Value} {cv : Value} {n : Nat} {tb : List Nat} {C : Addr} (hC : mg (J n).1 = some (.ref C)) (hk : PySem.W.exmOne K (.ref C) cv = some true) (hr : XmF J K mg tb cv) : XmF J K mg (n :: tb) cv := fun m h C' hC' => by
  rcases List.mem_cons.mp h with e | h
  · subst e
    have z := hC.symm.trans hC'
    cases z
    exact hk
  · exact hr m h C' hC'
def sTryH (ih ie : Nat) (tb : List Nat) (fb : Sx) : Sx := fun env s => match fb env s with
  | .exc c env' s' => if c ∈ tb ∧ ie < env'.length then .fl (.nx ((env'.set ih (some (.exc c))).set ie none)) s' else .bad
  | r => r
theorem ss_try_held {x n h : Str} {cv : Value} {ie ih : Nat} {tb : List Nat} {body : List Stmt} {np pos' hp ep hpos : Pos} {fb : Sx} (hs : X.stack = X.env :: X.outer) (hf : X.env.frame = some X.env.locals) (hN : X.N.Nodup) (hi : X.N[ie]? = some n) (hln : X.env.kindOf n = some .local) (hc : Names X x cv) (hex : X.ex = []) (hm : XmF J X.K X.mg tb cv)
    (hb : ∀ (W : WX) (pn : List (Addr × Obj)) (xe : Value → Shared → Prop), Tks false (X.tr pn xe) W → PassesOwn (model X.prog X.w) X.A X.env xe → SSs J (X.tr pn xe) W body fb)
    (hv : ∀ (a : Addr) (pn : List (Addr × Obj)), PE (X.suite a pn) (.Name n ep) (tVar ie)) (hg : ∀ (a : Addr) (pn : List (Addr × Obj)), PG (X.suite a pn) (.Name h hp) (gName ih))
    (hsw : ∀ (a : Addr) (pn : List (Addr × Obj)), swapsWithSole [.Name h hp] (.Name n ep) hpos.line (X.suite a pn).env = pure false := by intro _ _; rfl) (hw : ∀ (a : Addr) (pn : List (Addr × Obj)), swappedStores [.Name h hp] (.Name n ep) (X.suite a pn).env = pure none := by intro _ _; rfl)
    (h1 : ∀ (a : Addr) (pn : List (Addr × Obj)), (assignEach [.Name h hp] (X.suite a pn).env).map (·.2) = [assign (.Name h hp) (X.suite a pn).env] := by intro _ _; rfl) :
    SS J X W (.Try body [.ExceptHandler (some (.Name x np)) (some n) [.Assign [.Name h hp] (.Name n ep) hpos] pos'] [] [] pos) (sTryH ih ie tb fb) := by
  refine PS.imp (ps_try_kept (tb := fun W => tS (wd J X) W fb) (ts := fun a cls d => tAsg (tVar ie) (gName ih)) hs hf hN hi hln hc hex (fun W pn xe tk po => hb W pn xe tk po) (fun a oe cls d pn _ _ => pss_one (ps_asg (hv a _) (hg a _) (hsw a _) (hw a _) (h1 a _)))) fun D σ H ⟨env, ρ, F, s, g, l, k⟩ => ⟨env, ρ, F, s, g, l, ?_⟩
  unfold sTryH at k
  cases er : fb env s with
  | fl f s1 => rw [er] at k; cases f <;> exact k
  | bad => rw [er] at k; exact k
  | exc cn env1 s1 =>
    rw [er] at k
    simp only [] at k
    split at k
    · rename_i hq
      intro ρ1 F1 H1 σ1 C l1 g1 sl1 hC
      refine ⟨hm cn hq.1 C hC, C, rfl, rfl, fun a ha => ?_⟩
      have hlen : ie < σ1.length := by rw [← sl1.len]; exact hq.2
      refine ⟨.ref a, List.getElem?_set_self hlen, fun hn => ?_⟩
      have g2 := g1.frz (ExH C a) ha
      have l2 := LE.frz (o := ExH C a) g1 ha
      have dx : Den (wd J X) ρ1 (upd F1 a (ExH C a)) (.exc cn) (.ref a) := by
        simp only [Den]
        exact ⟨a, C, rfl, hC, upd_same⟩
      refine k ρ1 _ _ _ (l1.trans l2) g2 ?_
      have s3 := ((sl1.mono l2).set dx ih).unset ie
      refine ⟨by rw [s3.len]; simp, fun i d hd => ?_⟩
      obtain ⟨v, q1, q2⟩ := s3.at_ i d hd
      refine ⟨v, ?_, q2⟩
      rw [← q1]
      by_cases e1 : ie = i
      · subst e1
        rw [List.getElem?_set_self (by simpa using hlen), List.getElem?_set_self (by simpa using hlen)]
      · rw [List.getElem?_set_ne e1, List.getElem?_set_ne e1]
        by_cases e2 : ih = i
        · subst e2
          by_cases e3 : ih < σ1.length
          · rw [List.getElem?_set_self (by simpa using e3), List.getElem?_set_self (by simpa using e3)]
          · rw [List.getElem?_eq_none (by simpa using e3), List.getElem?_eq_none (by simpa using e3)]
        · rw [List.getElem?_set_ne e2, List.getElem?_set_ne e2, List.getElem?_set_ne e1]
    · exact False.elim k
/-! ### xs.count(y), flat things -/
theorem count_eqU {x : V} : ∀ {xs : List V} {us : List Value}, Vals xs us → xs.all flatV = true → us.countP (eqU x) = xs.countP fun y => eqV y x
  | _, _, .nil, _ => rfl
  | y :: ys, u :: us, .cons r t, f => by
    simp only [List.all_cons, Bool.and_eq_true] at f
    rw [List.countP_cons, List.countP_cons, count_eqU t f.2, eqU_of r f.1]
def rCntF (K : PySem.W.Frag) : V → List V → Hp → VK → Prop := fun x xs H Q => ∃ (p : Addr) (ys : List V) (y : V), x = .ref p ∧ xs = [y] ∧ SqL K H p ys ∧ flatV y = true ∧ ys.all flatV = true ∧ Q (.int ((ys.countP fun z => eqV z y : Nat) : Int)) H
theorem mt_cntF : MtR X "list.count" (rCntF X.K) := by
  intro pins s σ H x xs v us Q I rx rxs h
  obtain ⟨p, ys, y, rfl, rfl, hs, fy, fs, q⟩ := h
  cases rx
  obtain ⟨u, rfl, ru⟩ := rxs.one
  obtain ⟨its, rv, ⟨⟨cls, dd, data, sl⟩, n, ho, hc, hdn, hd⟩, hlen⟩ := I.list hs
  simp only at hc hd
  subst hc hd
  refine call_meets PySem.F.slot_list_count ⟨_, ho, rfl⟩ PySem.F.entry_list_count (PySem.F.args_list_count_2 _ _)
    (SeqAt.list_countAt p its.toArray n dd sl u (eqU y)) ⟨ho, fun w hw => mem_eqAt ru fy rv fs w (by simpa using hw), ?_⟩
  have ec : its.toArray.toList.countP (eqU y) = ys.countP fun z => eqV z y := count_eqU rv fs
  refine ⟨.int ((ys.countP fun z => eqV z y : Nat) : Int), H, I.tok _, ⟨s.toks, ?_⟩, q⟩
  show Value.int ((its.toArray.toList.countP (eqU y) : Nat) : Int) s.toks = Value.int ((ys.countP fun z => eqV z y : Nat) : Int) s.toks
  rw [ec]
def dCount (x y : Dt) (s : Sto) : Out Dt := match asL s x with
  | some l => if flatD y && l.all flatD then .ok (.int ((l.countP fun e => feq e y : Nat) : Int)) s else .bad
  | none => .bad
theorem count_toVd {x : Dt} (hx : flatD x = true) : ∀ {ds : List Dt}, ds.all flatD = true → ((ds.map toVd).countP fun z => eqV z (toVd x)) = ds.countP fun e => feq e x
  | [], _ => rfl
  | d :: ds, k => by
    simp only [List.all_cons, Bool.and_eq_true] at k
    rw [List.map_cons, List.countP_cons, List.countP_cons, count_toVd hx k.2, eqV_toVd k.1 hx]
theorem m_count : Bm1 J X "list" "count" isLst dCount := ⟨_, _, PySem.F.plainAttrs_list, PySem.F.slot_list_count, PySem.F.type_list_count, mt_cntF, ty_lst, fun ρ F s H x y dx dy Q E g rx ry k => by
  unfold dCount at k
  split at k
  · rename_i l hl
    split at k
    · rename_i hf
      simp only [Bool.and_eq_true] at hf
      obtain ⟨ad, xs, e3, q, t, _⟩ := g.sqL rx hl
      have e4 := t.flat hf.2
      have e5 := ry.flat hf.1
      subst e4; subst e5
      refine ⟨ad, _, _, e3, rfl, q, flatV_toVd _, all_flat_map _, ?_⟩
      rw [count_toVd hf.1 hf.2]
      exact k ρ F H _ LE.refl g (by simp only [Den])
    · exact False.elim k
  · exact False.elim k⟩
end
end Pd
namespace Pd
open PySem L2
section
variable {J : Cn} {X : Cx} {W : WX} {a b c e e2 o tgt iter elt : Expr} {es ifs : List Expr} {fa fb fc fe fo fi fv : Ex} {fs : List Ex} {ft fu : Tx} {pos p p2 apos cpos tpos : Pos} {st : Stmt} {rest : List Stmt} {f1 f2 : Sx}
/-! ### a, b = x, y -/
def sPar (i j : Nat) (fa fb : Ex) : Sx := fun env => sBnd (evs [fa, fb] env) env fun ds s => match ds with
  | [x, y] => .fl (.nx ((env.set i (some x)).set j (some y))) s
  | _ => .bad
theorem ss_par {i j : Nat} {x y : Str} {px py pt : Pos} {kt k2 pt2} (hc : X.calm = true) (hN : X.N.Nodup) (hi : X.N[i]? = some x) (hj : X.N[j]? = some y) (hij : i ≠ j)
    (hx : X.env.scope.names.lookup x = some .local) (hy : X.env.scope.names.lookup y = some .local) (ha : ASo J X W [a, b] [fa, fb])
    (hw : swappedStores [.Tuple [.Name x px, .Name y py] kt pt] (.Tuple [a, b] k2 pt2) X.env = pure (some [x, y]))
    (hs : swapsWithSole [.Tuple [.Name x px, .Name y py] kt pt] (.Tuple [a, b] k2 pt2) pos.line X.env = pure false := by rfl) :
    SS J X W (.Assign [.Tuple [.Name x px, .Name y py] kt pt] (.Tuple [a, b] k2 pt2) pos) (sPar i j fa fb) :=
  PS.imp (ps_par hc hN hi hj hij hx hy ha hw hs) fun D σ H ⟨env, ρ, F, s, g, l, k⟩ => ⟨env, ρ, F, s, g, l, FPo.bind k l fun ds s1 ρ1 F1 H1 vs e1 l1 g1 r1 k1 => by
    match ds, k1, r1 with
    | [d1, d2], k1, r1 =>
      simp only [Dens] at r1
      obtain ⟨v, r, e2, q1, v2, r2, e3, q2, e4⟩ := r1
      subst e2; subst e3; subst e4
      exact ⟨v, v2, rfl, k1 ρ1 F1 H1 _ LE.refl g1 (((l.mono l1).set q1 i).set q2 j)⟩
    | [], k1, _ => exact False.elim k1
    | [d1], k1, _ => exact False.elim k1
    | d1 :: d2 :: d3 :: ds, k1, _ => exact False.elim k1⟩
/-! ### is, is not of truths -/
theorem op_isB : OpR X (compareOp .Is) (fun x y H Q => ∃ a b, x = .bl a ∧ y = .bl b ∧ Q (.bl (a == b)) H) := by
  intro pins s σ H x y v u Q I rx ry h
  obtain ⟨a, b, rfl, rfl, q⟩ := h
  cases (show v = Value.bool a from rx)
  cases (show u = Value.bool b from ry)
  exact wpAny_is_plain rfl (fin_bl I q (by cases a <;> cases b <;> rfl))
theorem op_isNotB : OpR X (compareOp .IsNot) (fun x y H Q => ∃ a b, x = .bl a ∧ y = .bl b ∧ Q (.bl (!(a == b))) H) := by
  intro pins s σ H x y v u Q I rx ry h
  obtain ⟨a, b, rfl, rfl, q⟩ := h
  cases (show v = Value.bool a from rx)
  cases (show u = Value.bool b from ry)
  exact wpAny_isNot_plain rfl (fin_bl I q (by cases a <;> cases b <;> rfl))
def dIsB (x y : Dt) (s : Sto) : Out Dt := match x with
  | .bl a => match y with
    | .bl b => .ok (.bl (a == b)) s
    | _ => .bad
  | _ => .bad
def dIsNotB (x y : Dt) (s : Sto) : Out Dt := match x with
  | .bl a => match y with
    | .bl b => .ok (.bl (!(a == b))) s
    | _ => .bad
  | _ => .bad
theorem c_isB : CmpOk J X .Is dIsB := ⟨_, op_isB, fun ρ F s H x y dx dy Q E g rx ry k => by
  cases dx with
  | bl a =>
    cases dy with
    | bl b => simp only [Den] at rx ry; exact ⟨a, b, rx, ry, k ρ F H _ LE.refl g (by simp only [Den])⟩
    | _ => exact False.elim k
  | _ => exact False.elim k⟩
theorem c_isNotB : CmpOk J X .IsNot dIsNotB := ⟨_, op_isNotB, fun ρ F s H x y dx dy Q E g rx ry k => by
  cases dx with
  | bl a =>
    cases dy with
    | bl b => simp only [Den] at rx ry; exact ⟨a, b, rx, ry, k ρ F H _ LE.refl g (by simp only [Den])⟩
    | _ => exact False.elim k
  | _ => exact False.elim k⟩
/-! ### list * int -/
def dRep (nw : List Dt → Sto → Out Dt) (x y : Dt) (s : Sto) : Out Dt := match y with
  | .int k => match trkL s x with
    | some l => if k < 1000000 ∧ -1000000 < k ∧ l.length * k.toNat ≤ sizeLine then nw (List.replicate k.toNat l).flatten s else .bad
    | none => .bad
  | _ => .bad
theorem Dens.rep {Γ : Wd} {ρ : List Addr} {F : Hp} {l : List Dt} {xs : List V} (t : Dens Γ ρ F l xs) : ∀ n : Nat, Dens Γ ρ F (List.replicate n l).flatten (List.replicate n xs).flatten
  | 0 => by simp [Dens]
  | n + 1 => by
    rw [List.replicate_succ, List.replicate_succ, List.flatten_cons, List.flatten_cons]
    exact Dens.append t (Dens.rep t n)
theorem es_rep {nw : List Dt → Sto → Out Dt} (n : IsNw nw) (ha : ES J X W a fa) (hb : ES J X W b fb) : ES J X W (.BinOp a .Mult b pos) (eOp (dRep nw) fa fb) :=
  es_op op_rep (fun ρ F s H x y dx dy Q E g rx ry k => by
    cases dy with
    | int m =>
      simp only [Den] at ry
      simp only [dRep] at k
      split at k
      · rename_i l hl
        split at k
        · rename_i hz
          obtain ⟨ad, xs, e1, q, t, _⟩ := g.trk rx hl
          have hlen : (List.replicate m.toNat l).flatten.length ≤ sizeLine := by
            rw [List.length_flatten, List.map_replicate, List.sum_replicate_nat, Nat.mul_comm]
            exact hz.2.2
          exact ⟨ad, m, xs, e1, ry, q, by omega, by omega, by rw [← t.length]; exact hz.2.2, fun p hp => new_lst n g (t.rep m.toNat) hlen hp k⟩
        · exact False.elim k
      · exact False.elim k
    | _ => exact False.elim k) ha hb
end
end Pd
namespace Pd
open PySem L2
/-! ### tables -/
section
variable {κ α : Type} [DecidableEq κ]
def valA (kvs : List (κ × α)) (k : κ) : Option α := (kvs.find? fun kv => decide (kv.1 = k)).map (·.2)
def putA (kvs : List (κ × α)) (k : κ) (v : α) : List (κ × α) :=
  if (kvs.any fun kv => decide (kv.1 = k)) = true then kvs.map (fun kv => if kv.1 = k then (kv.1, v) else kv) else kvs ++ [(k, v)]
def dropA (kvs : List (κ × α)) (k : κ) : List (κ × α) := kvs.filter fun kv => decide (kv.1 ≠ k)
theorem length_putA (kvs : List (κ × α)) (k : κ) (v : α) : (putA kvs k v).length ≤ kvs.length + 1 := by
  unfold putA
  split
  · rw [List.length_map]; omega
  · rw [List.length_append]; simp
theorem putA_keys {kvs : List (κ × α)} {k : κ} {v : α} {P : κ → Prop} (h : ∀ kv ∈ kvs, P kv.1) (hk : P k) : ∀ kv ∈ putA kvs k v, P kv.1 := fun kv hkv => by
  unfold putA at hkv
  split at hkv
  · obtain ⟨x, h1, h2⟩ := List.mem_map.mp hkv
    rw [← h2]
    split
    · exact h x h1
    · exact h x h1
  · rcases List.mem_append.mp hkv with h1 | h1
    · exact h kv h1
    · rw [List.mem_singleton] at h1; rw [h1]; exact hk
variable {Γ : Wd} {ρ : List Addr} {F : Hp}
theorem DenK.val : ∀ {kvs : List (κ × Dt)} {vs : List (κ × V)} (k : κ), DenK Γ ρ F kvs vs → (valA kvs k = none ∧ valV vs k = none) ∨ ∃ d v, valA kvs k = some d ∧ valV vs k = some v ∧ Den Γ ρ F d v
  | [], vs, k, h => by
    simp only [DenK] at h
    subst h
    exact .inl ⟨rfl, rfl⟩
  | (f, d) :: r, vs, k, h => by
    obtain ⟨v, r', e, q, t⟩ := h
    subst e
    by_cases hf : f = k
    · refine .inr ⟨d, v, ?_, ?_, q⟩
      · simp [valA, List.find?_cons, hf]
      · simp [valV, List.find?_cons, hf]
    · rcases DenK.val k t with ⟨h1, h2⟩ | ⟨d', v', h1, h2, h3⟩
      · refine .inl ⟨?_, ?_⟩
        · rw [← h1]; simp [valA, List.find?_cons, hf]
        · rw [← h2]; simp [valV, List.find?_cons, hf]
      · refine .inr ⟨d', v', ?_, ?_, h3⟩
        · rw [← h1]; simp [valA, List.find?_cons, hf]
        · rw [← h2]; simp [valV, List.find?_cons, hf]
theorem DenK.any : ∀ {kvs : List (κ × Dt)} {vs : List (κ × V)} (k : κ), DenK Γ ρ F kvs vs → (kvs.any fun kv => decide (kv.1 = k)) = vs.any fun kv => decide (kv.1 = k)
  | [], vs, k, h => by simp only [DenK] at h; subst h; rfl
  | (f, d) :: r, vs, k, h => by
    obtain ⟨v, r', e, q, t⟩ := h
    subst e
    rw [List.any_cons, List.any_cons, DenK.any k t]
theorem DenK.repl {d : Dt} {v : V} (hd : Den Γ ρ F d v) : ∀ {kvs : List (κ × Dt)} {vs : List (κ × V)} (k : κ), DenK Γ ρ F kvs vs → DenK Γ ρ F (kvs.map fun kv => if kv.1 = k then (kv.1, d) else kv) (vs.map fun kv => if kv.1 = k then (kv.1, v) else kv)
  | [], vs, k, h => by simp only [DenK] at h; subst h; simp [DenK]
  | (f, d') :: r, vs, k, h => by
    obtain ⟨v', r', e, q, t⟩ := h
    subst e
    rw [List.map_cons, List.map_cons]
    by_cases hf : f = k
    · simp only [hf, if_true]
      exact ⟨v, _, rfl, hd, DenK.repl hd k t⟩
    · simp only [hf, if_false]
      exact ⟨v', _, rfl, q, DenK.repl hd k t⟩
theorem DenK.snoc {d : Dt} {v : V} (hd : Den Γ ρ F d v) (k : κ) : ∀ {kvs : List (κ × Dt)} {vs : List (κ × V)}, DenK Γ ρ F kvs vs → DenK Γ ρ F (kvs ++ [(k, d)]) (vs ++ [(k, v)])
  | [], vs, h => by
    simp only [DenK] at h
    subst h
    exact ⟨v, [], rfl, hd, rfl⟩
  | (f, d') :: r, vs, h => by
    obtain ⟨v', r', e, q, t⟩ := h
    subst e
    exact ⟨v', _, rfl, q, DenK.snoc hd k t⟩
theorem DenK.put {d : Dt} {v : V} (hd : Den Γ ρ F d v) (k : κ) {kvs : List (κ × Dt)} {vs : List (κ × V)} (h : DenK Γ ρ F kvs vs) : DenK Γ ρ F (putA kvs k d) (putK vs k v) := by
  unfold putA putK
  rw [h.any k]
  split
  · exact DenK.repl hd k h
  · exact DenK.snoc hd k h
theorem DenK.drop (k : κ) : ∀ {kvs : List (κ × Dt)} {vs : List (κ × V)}, DenK Γ ρ F kvs vs → DenK Γ ρ F (dropA kvs k) (dropK vs k)
  | [], vs, h => by simp only [DenK] at h; subst h; exact rfl
  | (f, d') :: r, vs, h => by
    obtain ⟨v', r', e, q, t⟩ := h
    subst e
    have ih := DenK.drop k t
    unfold dropA dropK at ih ⊢
    rw [List.filter_cons, List.filter_cons]
    by_cases hf : f = k
    · simp only [hf, ne_eq, not_true_eq_false, decide_false, Bool.false_eq_true, if_false]
      exact ih
    · simp only [hf, ne_eq, not_false_eq_true, decide_true, if_true]
      exact ⟨v', _, rfl, q, ih⟩
end
/-! ### keys -/
def keyD : Dt → Option Key
  | .int i => some (.inl i)
  | .str x => some (.inr x)
  | _ => none
def keysL : List Dt → Option (List Key)
  | [] => some []
  | d :: r => match keyD d, keysL r with
    | some k, some ks => some (k :: ks)
    | _, _ => none
def keysD : Dt → Option (List Key)
  | .tup l => keysL l
  | _ => none
section
variable {Γ : Wd} {ρ : List Addr} {F H : Hp} {s : Sto}
theorem Den.key {d : Dt} {v : V} {k : Key} (h : Den Γ ρ F d v) (e : keyD d = some k) : v = kV k ∧ kOk k = true := by
  cases d with
  | int i => simp only [Den] at h; simp only [keyD, Option.some.injEq] at e; subst e; exact ⟨h, rfl⟩
  | str x => simp only [Den] at h; simp only [keyD, Option.some.injEq] at e; subst e; exact h
  | _ => simp [keyD] at e
theorem Dens.keys : ∀ {ds : List Dt} {vs : List V} {ks : List Key}, Dens Γ ρ F ds vs → keysL ds = some ks → vs = ks.map kV ∧ ks.all kOk = true
  | [], vs, ks, h, e => by
    simp only [Dens] at h; simp only [keysL, Option.some.injEq] at e
    subst h; subst e
    exact ⟨rfl, rfl⟩
  | d :: ds, vs, ks, h, e => by
    simp only [Dens] at h; simp only [keysL] at e
    obtain ⟨v, r, e1, q, t⟩ := h
    split at e
    · rename_i k ks' h1 h2
      cases e
      obtain ⟨a1, a2⟩ := q.key h1
      obtain ⟨b1, b2⟩ := Dens.keys t h2
      subst e1
      rw [a1, b1]
      exact ⟨rfl, by rw [List.all_cons, a2, b2]; rfl⟩
    · cases e
/-- what a dict of the store holds at a key -/
def dgetD (s : Sto) (x y : Dt) : Option (Option Dt) := match x with
  | .obj i => match s[i]? with
    | some (.dic kvs) => (keyD y).map (valA kvs)
    | some (.dicL kvs) => (keyD y).map (valA kvs)
    | some (.dit kvs) => (keysD y).map (valA kvs)
    | some (.ditL kvs) => (keysD y).map (valA kvs)
    | _ => none
  | _ => none
def ROD (Γ : Wd) (ρ : List Addr) (F : Hp) (o : Option Dt) (r : Option V) : Prop := (o = none ∧ r = none) ∨ ∃ d v, o = some d ∧ r = some v ∧ Den Γ ρ F d v
theorem Den.tupAt (g : G Γ ρ F s H) {d : Dt} {v : V} {ks : List Key} (h : Den Γ ρ F d v) (e : keysD d = some ks) : ∃ b, v = .ref b ∧ H b = some (.tup (ks.map kV)) ∧ ks.all kOk = true := by
  cases d with
  | tup l =>
    simp only [Den] at h
    obtain ⟨_, a, xs, e1, q, t⟩ := h
    obtain ⟨h1, h2⟩ := t.keys e
    subst h1
    exact ⟨a, e1, g.sub _ _ q, h2⟩
  | _ => simp [keysD] at e
theorem G.dget (g : G Γ ρ F s H) {x y : Dt} {v u : V} {o : Option Dt} (rx : Den Γ ρ F x v) (ry : Den Γ ρ F y u) (e : dgetD s x y = some o) : ∃ a r, v = .ref a ∧ DGet H a u r ∧ ROD Γ ρ F o r ∧ IsD H a := by
  cases x with
  | obj i =>
    simp only [Den] at rx
    obtain ⟨a, e1, q⟩ := rx
    simp only [dgetD] at e
    split at e
    · rename_i kvs hs
      obtain ⟨_, vs, hx, t⟩ := g.at_ i a _ q hs
      obtain ⟨k, h1, h2⟩ := Option.map_eq_some_iff.mp e
      obtain ⟨a1, _⟩ := ry.key h1
      subst a1; subst h2
      exact ⟨a, _, e1, .inl ⟨vs, k, .inl hx, rfl, rfl⟩, t.val k, .inl ⟨vs, .inl hx⟩⟩
    · rename_i kvs hs
      obtain ⟨_, od, vs, hx, t⟩ := g.at_ i a _ q hs
      obtain ⟨k, h1, h2⟩ := Option.map_eq_some_iff.mp e
      obtain ⟨a1, _⟩ := ry.key h1
      subst a1; subst h2
      exact ⟨a, _, e1, .inl ⟨vs, k, .inr ⟨od, hx.1⟩, rfl, rfl⟩, t.val k, .inl ⟨vs, .inr ⟨od, hx.1⟩⟩⟩
    · rename_i kvs hs
      obtain ⟨_, vs, hx, t⟩ := g.at_ i a _ q hs
      obtain ⟨k, h1, h2⟩ := Option.map_eq_some_iff.mp e
      obtain ⟨b, b1, b2, _⟩ := Den.tupAt g ry h1
      subst h2
      exact ⟨a, _, e1, .inr ⟨vs, k, b, .inl hx, b1, b2, rfl⟩, t.val k, .inr ⟨vs, .inl hx⟩⟩
    · rename_i kvs hs
      obtain ⟨_, od, vs, hx, t⟩ := g.at_ i a _ q hs
      obtain ⟨k, h1, h2⟩ := Option.map_eq_some_iff.mp e
      obtain ⟨b, b1, b2, _⟩ := Den.tupAt g ry h1
      subst h2
      exact ⟨a, _, e1, .inr ⟨vs, k, b, .inr ⟨od, hx.1⟩, b1, b2, rfl⟩, t.val k, .inr ⟨vs, .inr ⟨od, hx.1⟩⟩⟩
    · cases e
  | _ => simp [dgetD] at e
end
section
variable {J : Cn} {X : Cx} {W : WX} {a b c e e2 o tgt iter elt : Expr} {es ifs : List Expr} {fa fb fc fe fo fi fv fx : Ex} {fs : List Ex} {ft fu : Tx} {pos p p2 apos cpos tpos : Pos} {st : Stmt} {rest : List Stmt} {f1 f2 : Sx}
def eDnewK : Ex := fun _ s => .ok (.obj s.length) (s ++ [.dic []])
def eDnewT : Ex := fun _ s => .ok (.obj s.length) (s ++ [.dit []])
theorem es_dnewK : ES J X W (.Dict [] [] pos) eDnewK := PE.imp pe_dnewK fun σ H Q ⟨env, ρ, F, s, g, l, k⟩ p hp => by
  refine k (ρ ++ [p]) F _ _ (LE.new hp) (g.new hp ⟨⟨Nat.zero_le _, fun _ h => nomatch h⟩, [], upd_same, rfl⟩) ?_
  simp only [Den]
  exact ⟨p, rfl, by rw [← g.len, List.getElem?_append_right (Nat.le_refl _), Nat.sub_self]; rfl⟩
theorem es_dnewT : ES J X W (.Dict [] [] pos) eDnewT := PE.imp pe_dnewT fun σ H Q ⟨env, ρ, F, s, g, l, k⟩ p hp => by
  refine k (ρ ++ [p]) F _ _ (LE.new hp) (g.new hp ⟨⟨Nat.zero_le _, fun _ h => nomatch h⟩, [], upd_same, rfl⟩) ?_
  simp only [Den]
  exact ⟨p, rfl, by rw [← g.len, List.getElem?_append_right (Nat.le_refl _), Nat.sub_self]; rfl⟩
def dDget (x y : Dt) (s : Sto) : Out Dt := match dgetD s x y with
  | some (some d) => .ok d s
  | _ => .bad
theorem es_dget (hu : X.A.units + 1 < cLine) (ha : ES J X W a fa) (hb : ES J X W b fb) (hs : NoSl b := by exact fun _ _ => rfl) : ES J X W (.Subscript a b pos) (eOp dDget fa fb) :=
  PE.imp (pe_dget hu ha hb hs) fun σ H Q ⟨env, ρ, F, s, g, l, k⟩ => ⟨env, ρ, F, s, g, l, Po.bind k fun x s1 ρ1 F1 H1 v e1 l1 g1 r1 k1 => ⟨env, ρ1, F1, s1, g1, l.mono l1, Po.bind k1 fun y s2 ρ2 F2 H2 u e2 l2 g2 r2 k2 => by
    unfold dDget at k2
    split at k2
    · rename_i d hd
      obtain ⟨ad, r, h1, h2, h3, _⟩ := g2.dget (Den.mono l2 _ _ r1) r2 hd
      rcases h3 with ⟨h3, _⟩ | ⟨d', v', h3, h4, h5⟩
      · cases h3
      · cases h3
        subst h4
        exact ⟨ad, v', h1, h2, k2 ρ2 F2 H2 v' LE.refl g2 h5⟩
    · exact False.elim k2⟩⟩
/-- y in d -/
def dDin (y x : Dt) (s : Sto) : Out Dt := match dgetD s x y with
  | some o => .ok (.bl o.isSome) s
  | none => .bad
def dDnotIn (y x : Dt) (s : Sto) : Out Dt := match dgetD s x y with
  | some o => .ok (.bl (!o.isSome)) s
  | none => .bad
theorem ROD.isSome {Γ : Wd} {ρ : List Addr} {F : Hp} {o : Option Dt} {r : Option V} (h : ROD Γ ρ F o r) : r.isSome = o.isSome := by
  rcases h with ⟨h1, h2⟩ | ⟨d, v, h1, h2, _⟩ <;> rw [h1, h2] <;> rfl
theorem din_of {σ : St} {H : Hp} {Q : VK} (h : tE (wd J X) W (eOp dDin fa fb) σ H Q) : tDIn (tE (wd J X) W fa) (tE (wd J X) W fb) σ H Q := by
  obtain ⟨env, ρ, F, s, g, l, k⟩ := h
  refine ⟨env, ρ, F, s, g, l, Po.bind k fun y s1 ρ1 F1 H1 v e1 l1 g1 r1 k1 => ⟨env, ρ1, F1, s1, g1, l.mono l1, Po.bind k1 fun x s2 ρ2 F2 H2 u e2 l2 g2 r2 k2 => ?_⟩⟩
  unfold dDin at k2
  split at k2
  · rename_i ov hd
    obtain ⟨ad, r, h1, h2, h3, _⟩ := g2.dget r2 (Den.mono l2 _ _ r1) hd
    exact ⟨ad, r, h1, h2, by rw [h3.isSome]; exact k2 ρ2 F2 H2 _ LE.refl g2 (by simp only [Den])⟩
  · exact False.elim k2
theorem dnotin_of {σ : St} {H : Hp} {Q : VK} (h : tE (wd J X) W (eOp dDnotIn fa fb) σ H Q) : tDNotIn (tE (wd J X) W fa) (tE (wd J X) W fb) σ H Q := by
  obtain ⟨env, ρ, F, s, g, l, k⟩ := h
  refine ⟨env, ρ, F, s, g, l, Po.bind k fun y s1 ρ1 F1 H1 v e1 l1 g1 r1 k1 => ⟨env, ρ1, F1, s1, g1, l.mono l1, Po.bind k1 fun x s2 ρ2 F2 H2 u e2 l2 g2 r2 k2 => ?_⟩⟩
  unfold dDnotIn at k2
  split at k2
  · rename_i ov hd
    obtain ⟨ad, r, h1, h2, h3, _⟩ := g2.dget r2 (Den.mono l2 _ _ r1) hd
    exact ⟨ad, r, h1, h2, by rw [h3.isSome]; exact k2 ρ2 F2 H2 _ LE.refl g2 (by simp only [Den])⟩
  · exact False.elim k2
theorem es_din (hu : X.A.units + 1 < cLine) (ha : ES J X W a fa) (hb : ES J X W b fb) (hm : behindInMarks .In b = false := by rfl) : ES J X W (.Compare a [.In] [b] pos) (eOp dDin fa fb) := PE.imp (pe_cmp (pc_din hu ha hb) hm) fun σ H Q h => din_of h
theorem es_dnotIn (hu : X.A.units + 1 < cLine) (ha : ES J X W a fa) (hb : ES J X W b fb) (hm : behindInMarks .NotIn b = false := by rfl) : ES J X W (.Compare a [.NotIn] [b] pos) (eOp dDnotIn fa fb) := PE.imp (pe_cmp (pc_dnotin hu ha hb) hm) fun σ H Q h => dnotin_of h
theorem ts_din (hu : X.A.units + 1 < cLine) (ha : ES J X W a fa) (hb : ES J X W b fb) (hm : behindInMarks .In b = false := by rfl) : TSo J X W (.Compare a [.In] [b] pos) (tBl (eOp dDin fa fb)) := PT.imp (pt_cmp (pc_din hu ha hb) hm) fun σ H Q h => din_of (tT_bl h)
theorem ts_dnotIn (hu : X.A.units + 1 < cLine) (ha : ES J X W a fa) (hb : ES J X W b fb) (hm : behindInMarks .NotIn b = false := by rfl) : TSo J X W (.Compare a [.NotIn] [b] pos) (tBl (eOp dDnotIn fa fb)) := PT.imp (pt_cmp (pc_dnotin hu ha hb) hm) fun σ H Q h => dnotin_of (tT_bl h)
end
end Pd
namespace Pd
open PySem L2
section
variable {J : Cn} {X : Cx} {W : WX} {a b c e e2 o tgt iter elt : Expr} {es ifs : List Expr} {fa fb fc fe fo fi fv fx : Ex} {fs : List Ex} {ft fu : Tx} {pos p p2 apos cpos tpos : Pos} {st : Stmt} {rest : List Stmt} {f1 f2 : Sx}
/-! ### d[k] = v -/
def dputD (s : Sto) (x y v : Dt) : Option Sto := match x with
  | .obj i => match s[i]? with
    | some (.dic kvs) => (keyD y).bind fun k => if kvs.length < sizeLine then some (s.set i (.dic (putA kvs k v))) else none
    | some (.dit kvs) => (keysD y).bind fun k => if kvs.length < sizeLine then some (s.set i (.dit (putA kvs k v))) else none
    | _ => none
  | _ => none
theorem G.dput {Γ : Wd} {ρ : List Addr} {F H : Hp} {s s' : Sto} (g : G Γ ρ F s H) {x y v : Dt} {u w z : V} (rx : Den Γ ρ F x u) (ry : Den Γ ρ F y w) (rv : Den Γ ρ F v z) (e : dputD s x y v = some s') :
    ∃ a H', u = .ref a ∧ DPut H a w z H' ∧ G Γ ρ F s' H' ∧ LE ρ F H ρ F H' := by
  cases x with
  | obj i =>
    simp only [Den] at rx
    obtain ⟨a, e1, q⟩ := rx
    simp only [dputD] at e
    split at e
    · rename_i kvs hs
      obtain ⟨⟨z1, z2⟩, vs, hx, t⟩ := g.at_ i a _ q hs
      obtain ⟨k, h1, h2⟩ := Option.bind_eq_some_iff.mp e
      split at h2
      · rename_i hl
        cases h2
        obtain ⟨a1, a2⟩ := ry.key h1
        subst a1
        have hlen : vs.length = kvs.length := t.length.symm
        refine ⟨a, _, e1, .inl ⟨vs, k, hx, rfl, by rw [hlen]; exact hl, rfl⟩, g.put q (fun od u e => by rw [hx] at e; cases e) ⟨⟨?_, putA_keys (P := fun k : Key => kOk k = true) z2 a2⟩, _, upd_same, DenK.put rv k t⟩, LE.put (List.mem_of_getElem? q)⟩
        have := length_putA kvs k v
        omega
      · cases h2
    · rename_i kvs hs
      obtain ⟨⟨z1, z2⟩, vs, hx, t⟩ := g.at_ i a _ q hs
      obtain ⟨k, h1, h2⟩ := Option.bind_eq_some_iff.mp e
      split at h2
      · rename_i hl
        cases h2
        obtain ⟨b, b1, b2, b3⟩ := Den.tupAt g ry h1
        have hlen : vs.length = kvs.length := t.length.symm
        refine ⟨a, _, e1, .inr ⟨vs, k, b, hx, b1, b2, by rw [hlen]; exact hl, rfl⟩, g.put q (fun od u e => by rw [hx] at e; cases e) ⟨⟨?_, putA_keys (P := fun k : List Key => k.all kOk = true) z2 b3⟩, _, upd_same, DenK.put rv k t⟩, LE.put (List.mem_of_getElem? q)⟩
        have := length_putA kvs k v
        omega
      · cases h2
    · cases e
  | _ => simp [dputD] at e
def sDput (fo fi fv : Ex) : Sx := fun env => sBnd (fv env) env fun v => sBnd (fo env) env fun x => sBnd (fi env) env fun y s => match dputD s x y v with
  | some s' => .fl (.nx env) s'
  | none => .bad
theorem ss_dput (hu : X.A.units + 1 < cLine) (ho : ES J X W o fo) (hi : ES J X W e fi) (hv : ES J X W e2 fv) (hs : swapsWith e2 (some (.Subscript o e tpos)) pos.line X.env = pure false := by rfl) : SS J X W (.Assign [.Subscript o e tpos] e2 pos) (sDput fo fi fv) :=
  PS.imp (ps_dput hu ho hi hv hs) fun D σ H ⟨env, ρ, F, s, g, l, k⟩ => ⟨env, ρ, F, s, g, l, FPo.bind k l fun v s1 ρ1 F1 H1 u e1 l1 g1 r1 k1 =>
    ⟨env, ρ1, F1, s1, g1, l.mono l1, FPo.bind k1 (l.mono l1) fun x s2 ρ2 F2 H2 ov e3 l2 g2 r2 k2 =>
      ⟨env, ρ2, F2, s2, g2, l.mono (l1.trans l2), FPo.bind k2 (l.mono (l1.trans l2)) fun y s3 ρ3 F3 H3 iv e4 l3 g3 r3 k3 => by
        cases ep : dputD s3 x y v with
        | none => rw [ep] at k3; exact False.elim k3
        | some s4 =>
          rw [ep] at k3
          obtain ⟨ad, H4, h1, h2, h3, h4⟩ := g3.dput (Den.mono l3 _ _ r2) r3 (Den.mono (l2.trans l3) _ _ r1) ep
          exact ⟨ad, H4, h1, h2, k3 ρ3 F3 H4 σ h4 h3 (l.mono (((l1.trans l2).trans l3).trans h4))⟩⟩⟩⟩
/-! ### d.get(k), d.get(k, x) -/
def isDic (s : Sto) : Dt → Bool
  | .obj i => match s[i]? with
    | some (.dic _) => true
    | some (.dit _) => true
    | some (.dicL _) => true
    | some (.ditL _) => true
    | _ => false
  | _ => false
theorem G.isD {Γ : Wd} {ρ : List Addr} {F H : Hp} {s : Sto} (g : G Γ ρ F s H) {d : Dt} {v : V} (r : Den Γ ρ F d v) (h : isDic s d = true) : ∃ a, v = .ref a ∧ IsD H a := by
  cases d with
  | obj i =>
    simp only [Den] at r
    obtain ⟨a, e1, q⟩ := r
    simp only [isDic] at h
    refine ⟨a, e1, ?_⟩
    split at h
    · rename_i kvs hs
      obtain ⟨_, vs, hx, t⟩ := g.at_ i a _ q hs
      exact .inl ⟨vs, .inl hx⟩
    · rename_i kvs hs
      obtain ⟨_, vs, hx, t⟩ := g.at_ i a _ q hs
      exact .inr ⟨vs, .inl hx⟩
    · rename_i kvs hs
      obtain ⟨_, od, vs, hx, t⟩ := g.at_ i a _ q hs
      exact .inl ⟨vs, .inr ⟨od, hx.1⟩⟩
    · rename_i kvs hs
      obtain ⟨_, od, vs, hx, t⟩ := g.at_ i a _ q hs
      exact .inr ⟨vs, .inr ⟨od, hx.1⟩⟩
    · cases h
  | _ => exact Bool.noConfusion h
def eDget2 (fo fe fx : Ex) : Ex := fun env => bnd (fo env) fun x s => if isDic s x = true then bnd (fe env) (fun y => bnd (fx env) fun z s => match dgetD s x y with
  | some o => .ok (o.getD z) s
  | none => .bad) s else .bad
theorem es_dget2 (hu : X.A.units + 1 < cLine) (ho : ES J X W o fo) (he : ES J X W e fe) (hx : ES J X W e2 fx) (m : M2 X o "get" apos e e2 cpos := by exact ⟨rfl, rfl, rfl, rfl⟩) : ES J X W (.Call (.Attribute o "get" apos) [e, e2] [] cpos) (eDget2 fo fe fx) :=
  PE.imp (pe_dget2 hu ho he hx m) fun σ H Q ⟨env, ρ, F, s, g, l, k⟩ => ⟨env, ρ, F, s, g, l, Po.bind k fun x s1 ρ1 F1 H1 v e1 l1 g1 r1 k1 => by
    split at k1
    · rename_i hd
      obtain ⟨ad, h1, h2⟩ := g1.isD r1 hd
      exact ⟨ad, h1, h2, env, ρ1, F1, s1, g1, l.mono l1, Po.bind k1 fun y s2 ρ2 F2 H2 u e2 l2 g2 r2 k2 => ⟨env, ρ2, F2, s2, g2, (l.mono l1).mono l2, Po.bind k2 fun z s3 ρ3 F3 H3 w e3 l3 g3 r3 k3 => by
        split at k3
        · rename_i ov hg
          obtain ⟨ad', r, h3, h4, h5, _⟩ := g3.dget (Den.mono (l2.trans l3) _ _ r1) (Den.mono l3 _ _ r2) hg
          have ea : ad' = ad := by rw [h1] at h3; cases h3; rfl
          subst ea
          refine ⟨r, h4, ?_⟩
          rcases h5 with ⟨c1, c2⟩ | ⟨d, v', c1, c2, c3⟩
          · subst c1; subst c2; exact k3 ρ3 F3 H3 w LE.refl g3 r3
          · subst c1; subst c2; exact k3 ρ3 F3 H3 v' LE.refl g3 c3
        · exact False.elim k3⟩⟩
    · exact False.elim k1⟩
/-! ### d.pop(k) of plain keys -/
def dpopD (s : Sto) (x y : Dt) : Option (Dt × Sto) := match x with
  | .obj i => match s[i]? with
    | some (.dic kvs) => (keyD y).bind fun k => (valA kvs k).map fun d => (d, s.set i (.dic (dropA kvs k)))
    | _ => none
  | _ => none
def eDpop1 (fo fe : Ex) : Ex := fun env => bnd (fo env) fun x s => if isDic s x = true then bnd (fe env) (fun y s => match dpopD s x y with
  | some (d, s') => .ok d s'
  | none => .bad) s else .bad
theorem es_dpop1 (ho : ES J X W o fo) (he : ES J X W e fe) (m : M1 X o "pop" apos e cpos := by exact ⟨rfl, rfl, rfl, rfl⟩) : ES J X W (.Call (.Attribute o "pop" apos) [e] [] cpos) (eDpop1 fo fe) :=
  PE.imp (pe_dpop1 ho he m) fun σ H Q ⟨env, ρ, F, s, g, l, k⟩ => ⟨env, ρ, F, s, g, l, Po.bind k fun x s1 ρ1 F1 H1 v e1 l1 g1 r1 k1 => by
    split at k1
    · rename_i hd
      obtain ⟨ad, h1, h2⟩ := g1.isD r1 hd
      exact ⟨ad, h1, h2, env, ρ1, F1, s1, g1, l.mono l1, Po.bind k1 fun y s2 ρ2 F2 H2 u e2 l2 g2 r2 k2 => by
        split at k2
        · rename_i d s' hg
          cases x with
          | obj i =>
            simp only [dpopD] at hg
            have r1' := Den.mono l2 _ _ r1
            simp only [Den] at r1'
            obtain ⟨a', c1, q⟩ := r1'
            have ea : a' = ad := by rw [h1] at c1; cases c1; rfl
            subst ea
            split at hg
            · rename_i kvs hs
              obtain ⟨⟨z1, z2⟩, vs, hx, t⟩ := g2.at_ i a' _ q hs
              obtain ⟨kk, c2, c3⟩ := Option.bind_eq_some_iff.mp hg
              obtain ⟨dd, c4, c5⟩ := Option.map_eq_some_iff.mp c3
              cases c5
              obtain ⟨c6, c7⟩ := r2.key c2
              subst c6
              rcases t.val kk with ⟨c8, _⟩ | ⟨d', v', c8, c9, c10⟩
              · rw [c8] at c4; cases c4
              · rw [c8] at c4
                cases c4
                refine ⟨vs, kk, v', hx, rfl, c9, k2 ρ2 F2 _ v' (LE.put (List.mem_of_getElem? q)) (g2.put q (fun od u e => by rw [hx] at e; cases e) ⟨⟨Nat.le_trans (List.length_filter_le _ _) z1, fun kv hkv => z2 kv (List.mem_filter.mp hkv).1⟩, _, upd_same, t.drop kk⟩) c10⟩
            · cases hg
          | _ => simp [dpopD] at hg
        · exact False.elim k2⟩
    · exact False.elim k1⟩
end
end Pd
namespace Pd
open PySem L2
/-! ### a dict is locked, and freed again -/
def cutH (F : Hp) (d : Addr) : Hp := fun a => if a = d then none else F a
theorem cut_ne {F : Hp} {d a : Addr} (h : a ≠ d) : cutH F d a = F a := if_neg h
theorem cut_same {F : Hp} {d : Addr} : cutH F d d = none := if_pos rfl
/-- what a locked thing may be -/
def isDk : HO → Bool
  | .dK _ => true
  | .dT _ => true
  | _ => false
section
variable {Γ : Wd} {ρ : List Addr} {F : Hp} {d : Addr} {od : Obj} {u : HO}
theorem cut_some (hd : F d = some (.frz od u)) {a : Addr} {o : HO} (h : F a = some o) (n : ∀ od u, o ≠ .frz od u) : cutH F d a = some o := by
  rw [cut_ne (fun e => by rw [e, hd] at h; cases h; exact n od u rfl)]
  exact h
theorem sqL_cut (hd : F d = some (.frz od u)) (hu : isDk u = true) {K : PySem.W.Frag} {a : Addr} {xs : List V} (h : SqL K F a xs) : SqL K (cutH F d) a xs := by
  rcases h with (h | ⟨o, h⟩) | h
  · exact .inl (.inl (cut_some hd h fun _ _ e => by cases e))
  · refine .inl (.inr ⟨o, ?_⟩)
    rw [cut_ne (fun e => by rw [e, hd] at h; cases h; cases hu)]
    exact h
  · exact .inr h
mutual
theorem Den.cutF (hd : F d = some (.frz od u)) (hu : isDk u = true) : ∀ (x : Dt) (v : V), Den Γ ρ F x v → Den Γ ρ (cutH F d) x v
  | .non, v, h => by simpa only [Den] using h
  | .bl b, v, h => by simpa only [Den] using h
  | .int i, v, h => by simpa only [Den] using h
  | .str x, v, h => by simpa only [Den] using h
  | .tup ds, v, h => by
    simp only [Den] at h ⊢
    obtain ⟨z, a, xs, e, q, r⟩ := h
    exact ⟨z, a, xs, e, cut_some hd q (fun _ _ e => by cases e), Dens.cutF hd hu ds xs r⟩
  | .lst ds, v, h => by
    simp only [Den] at h ⊢
    obtain ⟨z, a, xs, e, q, r⟩ := h
    exact ⟨z, a, xs, e, cut_some hd q (fun _ _ e => by cases e), Dens.cutF hd hu ds xs r⟩
  | .lsk ds, v, h => by
    simp only [Den] at h ⊢
    obtain ⟨z, a, xs, e, q, r⟩ := h
    exact ⟨z, a, xs, e, sqL_cut hd hu q, Dens.cutF hd hu ds xs r⟩
  | .obj i, v, h => by simpa only [Den] using h
  | .exc c, v, h => by
    simp only [Den] at h ⊢
    obtain ⟨a, C, e, q, r⟩ := h
    exact ⟨a, C, e, q, cut_some hd r (fun _ _ e => by unfold ExH at e; cases e)⟩
theorem Dens.cutF (hd : F d = some (.frz od u)) (hu : isDk u = true) : ∀ (ds : List Dt) (vs : List V), Dens Γ ρ F ds vs → Dens Γ ρ (cutH F d) ds vs
  | [], vs, h => by simpa only [Dens] using h
  | x :: ds, vs, h => by
    simp only [Dens] at h ⊢
    obtain ⟨v, r, e, q, t⟩ := h
    exact ⟨v, r, e, Den.cutF hd hu x v q, Dens.cutF hd hu ds r t⟩
end
theorem DenK.cutF {κ : Type} (hd : F d = some (.frz od u)) (hu : isDk u = true) : ∀ {ds : List (κ × Dt)} {vs : List (κ × V)}, DenK Γ ρ F ds vs → DenK Γ ρ (cutH F d) ds vs
  | [], vs, h => h
  | (f, x) :: ds, vs, h => by
    obtain ⟨v, r, e, q, t⟩ := h
    exact ⟨v, r, e, Den.cutF hd hu x v q, DenK.cutF hd hu t⟩
theorem MoOk.cutF (hd : F d = some (.frz od u)) (hu : isDk u = true) {H H1 : Hp} {a : Addr} (na : a ≠ d) (e : H1 a = H a) : ∀ {mo : Mo}, MoOk Γ ρ F H a mo → MoOk Γ ρ (cutH F d) H1 a mo
  | .lst ds, ⟨z, xs, h, q⟩ => ⟨z, xs, by rw [e]; exact h, Dens.cutF hd hu _ _ q⟩
  | .ins c fs, ⟨C, dx, vs, g, h, q, z⟩ => ⟨C, dx, vs, g, by rw [e]; exact h, Dens.cutF hd hu _ _ q, z⟩
  | .dic kvs, ⟨z, vs, h, q⟩ => ⟨z, vs, by rw [e]; exact h, DenK.cutF hd hu q⟩
  | .dit kvs, ⟨z, vs, h, q⟩ => ⟨z, vs, by rw [e]; exact h, DenK.cutF hd hu q⟩
  | .dicL kvs, ⟨z, o, vs, h, q⟩ => ⟨z, o, vs, ⟨by rw [e]; exact h.1, by rw [cut_ne na]; exact h.2⟩, DenK.cutF hd hu q⟩
  | .ditL kvs, ⟨z, o, vs, h, q⟩ => ⟨z, o, vs, ⟨by rw [e]; exact h.1, by rw [cut_ne na]; exact h.2⟩, DenK.cutF hd hu q⟩
end
/-- a dict, locked; a locked one, free -/
def lockM : Mo → Option Mo
  | .dic kvs => some (.dicL kvs)
  | .dit kvs => some (.ditL kvs)
  | _ => none
section
variable {Γ : Wd} {ρ : List Addr} {F H : Hp} {s : Sto}
theorem G.lock (g : G Γ ρ F s H) {i : Nat} {d : Addr} {mo mo' : Mo} (hi : ρ[i]? = some d) (hs : s[i]? = some mo) (hm : lockM mo = some mo') : ∃ u, H d = some u ∧ Mut (some u) ∧ isDk u = true ∧ F d = none ∧ ∀ od, G Γ ρ (upd F d (.frz od u)) (s.set i mo') (upd H d (.frz od u)) := by
  have gen : ∀ u, H d = some u → isDk u = true → (∀ od, F d = none → MoOk Γ ρ (upd F d (.frz od u)) (upd H d (.frz od u)) d mo') → ∃ u, H d = some u ∧ Mut (some u) ∧ isDk u = true ∧ F d = none ∧ ∀ od, G Γ ρ (upd F d (.frz od u)) (s.set i mo') (upd H d (.frz od u)) := fun u hu hk hmo => by
    have hF : F d = none := g.free (List.mem_of_getElem? hi) fun od v e => by rw [hu] at e; cases e; cases hk
    have mu : Mut (some u) := by
      cases u with
      | dK _ => exact True.intro
      | dT _ => exact True.intro
      | _ => cases hk
    refine ⟨u, hu, mu, hk, hF, fun od => ⟨fun a o h => ?_, by rw [List.length_set]; exact g.len, g.nd, fun a h => ?_, fun j b m h1 h2 => ?_⟩⟩
    · by_cases e : a = d
      · subst e; rw [upd_same] at h ⊢; exact h
      · rw [upd_ne e] at h ⊢; exact g.sub _ _ h
    · by_cases e : a = d
      · subst e; exact .inr ⟨od, u, upd_same⟩
      · rw [upd_ne e]; exact g.sep a h
    · by_cases hj : i = j
      · subst hj
        have e : d = b := Option.some.inj (hi.symm.trans h1)
        subst e
        rw [List.getElem?_set_self (List.getElem?_eq_some_iff.mp hs).1] at h2
        cases h2
        exact hmo od hF
      · rw [List.getElem?_set_ne hj] at h2
        exact (g.at_ j b m h1 h2).mono (LD.upd hF) (upd_ne fun z => hj (by subst z; exact nd_ix g.nd hi h1))
  cases mo with
  | dic kvs =>
    cases hm
    obtain ⟨z, vs, h, t⟩ := g.at_ i d _ hi hs
    exact gen (.dK vs) h rfl fun od hF => ⟨z, od, vs, ⟨upd_same, upd_same⟩, DenK.monoD (LD.upd hF) t⟩
  | dit kvs =>
    cases hm
    obtain ⟨z, vs, h, t⟩ := g.at_ i d _ hi hs
    exact gen (.dT vs) h rfl fun od hF => ⟨z, od, vs, ⟨upd_same, upd_same⟩, DenK.monoD (LD.upd hF) t⟩
  | _ => cases hm
theorem G.unlock (g : G Γ ρ F s H) {i : Nat} {d : Addr} {mo mo' : Mo} {od : Obj} {u : HO} (hi : ρ[i]? = some d) (hs : s[i]? = some mo') (hm : lockM mo = some mo') (hF : F d = some (.frz od u)) (hu : isDk u = true) :
    H d = some (.frz od u) ∧ G Γ ρ (cutH F d) (s.set i mo) (upd H d u) := by
  have hH : H d = some (.frz od u) := g.sub _ _ hF
  refine ⟨hH, fun a o h => ?_, by rw [List.length_set]; exact g.len, g.nd, fun a h => ?_, fun j b m h1 h2 => ?_⟩
  · by_cases e : a = d
    · subst e; rw [cut_same] at h; cases h
    · rw [cut_ne e] at h; rw [upd_ne e]; exact g.sub _ _ h
  · by_cases e : a = d
    · subst e; exact .inl cut_same
    · rw [cut_ne e]; exact g.sep a h
  · by_cases hj : i = j
    · subst hj
      have e : d = b := Option.some.inj (hi.symm.trans h1)
      subst e
      rw [List.getElem?_set_self (List.getElem?_eq_some_iff.mp hs).1] at h2
      cases h2
      have ok := g.at_ i d _ hi hs
      cases mo with
      | dic kvs =>
        cases hm
        obtain ⟨z, o2, vs, h, t⟩ := ok
        have e := hF.symm.trans h.2
        cases e
        exact ⟨z, vs, upd_same, DenK.cutF hF hu t⟩
      | dit kvs =>
        cases hm
        obtain ⟨z, o2, vs, h, t⟩ := ok
        have e := hF.symm.trans h.2
        cases e
        exact ⟨z, vs, upd_same, DenK.cutF hF hu t⟩
      | _ => cases hm
    · rw [List.getElem?_set_ne hj] at h2
      have nb : b ≠ d := fun z => hj (by subst z; exact nd_ix g.nd hi h1)
      exact MoOk.cutF hF hu nb (upd_ne nb) (g.at_ j b m h1 h2)
/-- from before the lock to behind it -/
theorem LE.locked {ρ' : List Addr} {F' H' : Hp} {d : Addr} {od : Obj} {u : HO} (hd : d ∈ ρ) (hF : F d = none) (hH : H d = some u) (l : LE ρ (upd F d (.frz od u)) (upd H d (.frz od u)) ρ' F' H') : LE ρ F H ρ' (cutH F' d) (upd H' d u) where
  ld := ⟨l.ld.pre, fun a o h => by
    have n : a ≠ d := fun e => by rw [e, hF] at h; cases h
    rw [cut_ne n]
    exact l.ld.sub a o (by rw [upd_ne n]; exact h)⟩
  fr := fun a h => by
    rcases l.fr a h with h | h
    · exact .inl h
    · by_cases e : a = d
      · subst e; rw [upd_same] at h; cases h
      · rw [upd_ne e] at h; exact .inr h
  ff := fun a o h => by
    by_cases e : a = d
    · subst e; rw [cut_same] at h; cases h
    · rw [cut_ne e] at h
      rcases l.ff a o h with ⟨v, h⟩ | h | ⟨n, xs, h⟩
      · rw [upd_ne e] at h; exact .inl ⟨v, h⟩
      · rw [upd_ne e] at h; exact .inr (.inl h)
      · rw [upd_ne e] at h; exact .inr (.inr ⟨n, xs, h⟩)
  keep := fun a o h n => by
    have e : a ≠ d := fun e => n (by rw [e]; exact hd)
    rw [upd_ne e]
    exact l.keep a o (by rw [upd_ne e]; exact h) n
  there := fun a o h => by
    by_cases e : a = d
    · subst e; exact ⟨u, upd_same⟩
    · obtain ⟨w, q⟩ := l.there a o (by rw [upd_ne e]; exact h)
      exact ⟨w, by rw [upd_ne e]; exact q⟩
end
open Classical in
noncomputable def unlockR (i : Nat) (mo mo' : Mo) : Res → Res
  | .fl f s => if s[i]? = some mo' then .fl f (s.set i mo) else .bad
  | _ => .bad
open Classical in
noncomputable def unlockO (i : Nat) (mo mo' : Mo) : Out Dt → Out Dt
  | .ok d s => if s[i]? = some mo' then .ok d (s.set i mo) else .bad
  | _ => .bad
/-- the dict that fo tells is locked while f runs -/
noncomputable def sLock (fo : Ex) (f : Sx) : Sx := fun env s => match fo env s with
  | .ok (.obj i) _ => match s[i]? with
    | some mo => match lockM mo with
      | some mo' => unlockR i mo mo' (f env (s.set i mo'))
      | none => .bad
    | none => .bad
  | _ => .bad
noncomputable def eLock (fo : Ex) (f : Ex) : Ex := fun env s => match fo env s with
  | .ok (.obj i) _ => match s[i]? with
    | some mo => match lockM mo with
      | some mo' => unlockO i mo mo' (f env (s.set i mo'))
      | none => .bad
    | none => .bad
  | _ => .bad
section
variable {J : Cn} {X : Cx} {W : WX} {e : Expr} {fo fe : Ex} {st : Stmt} {f1 : Sx}
theorem Sl.cutF {Γ : Wd} {ρ : List Addr} {F : Hp} {env : En} {σ : St} {d : Addr} {od : Obj} {u : HO} (h : Sl Γ ρ F env σ) (hd : F d = some (.frz od u)) (hu : isDk u = true) : Sl Γ ρ (cutH F d) env σ :=
  ⟨h.len, fun i x e => by obtain ⟨v, q, r⟩ := h.at_ i x e; exact ⟨v, q, Den.cutF hd hu x v r⟩⟩
theorem lock_at {Γ : Wd} {ρ : List Addr} {F H : Hp} {s : Sto} (g : G Γ ρ F s H) {i : Nat} {mo : Mo} (hs : s[i]? = some mo) : ∃ d, ρ[i]? = some d := by
  have hl : i < ρ.length := by rw [g.len]; exact (List.getElem?_eq_some_iff.mp hs).1
  exact ⟨ρ[i], List.getElem?_eq_getElem hl⟩
theorem ss_lock (fo : Ex) (h : SS J X W st f1) : SS J X W st (sLock fo f1) :=
  PS.imp (ps_lock h) fun D σ H ⟨env, ρ, F, s, g, l, k⟩ => by
    unfold sLock at k
    split at k
    · rename_i i s0 hfo
      split at k
      · rename_i mo hs
        split at k
        · rename_i mo' hm
          obtain ⟨d, hd⟩ := lock_at g hs
          obtain ⟨u, hH, mu, hu, hF, gl⟩ := g.lock hd hs hm
          refine ⟨d, u, hH, mu, fun od => ⟨env, ρ, _, _, gl od, ⟨l.len, fun j x e => by obtain ⟨v, q, r⟩ := l.at_ j x e; exact ⟨v, q, Den.monoD (LD.upd hF) x v r⟩⟩, ?_⟩⟩
          have hdm : d ∈ ρ := List.mem_of_getElem? hd
          cases er : f1 env (s.set i mo') with
          | bad => rw [er] at k; exact k
          | exc c e1 s1 => rw [er] at k; exact False.elim k
          | fl f s1 =>
            rw [er] at k
            simp only [unlockR] at k
            split at k
            · rename_i hs1
              have fin : ∀ {ρ' : List Addr} {F' H' : Hp}, LE ρ (upd F d (.frz od u)) (upd H d (.frz od u)) ρ' F' H' → G (wd J X) ρ' F' s1 H' → H' d = some (.frz od u) ∧ G (wd J X) ρ' (cutH F' d) (s1.set i mo) (upd H' d u) ∧ LE ρ F H ρ' (cutH F' d) (upd H' d u) ∧ F' d = some (.frz od u) := fun {ρ' F' H'} l' g' => by
                have hF' : F' d = some (.frz od u) := l'.ld.sub _ _ upd_same
                obtain ⟨a1, a2⟩ := g'.unlock (l'.ld.get hd) hs1 hm hF' hu
                exact ⟨a1, a2, LE.locked hdm hF hH l', hF'⟩
              cases f with
              | nx e1 => exact fun ρ' F' H' σ' l' g' sl' => by obtain ⟨a1, a2, a3, a4⟩ := fin l' g'; exact ⟨a1, k ρ' _ _ σ' a3 a2 (sl'.cutF a4 hu)⟩
              | rt x => exact fun ρ' F' H' v l' g' r' => by obtain ⟨a1, a2, a3, a4⟩ := fin l' g'; exact ⟨a1, k ρ' _ _ v a3 a2 (Den.cutF a4 hu x v r')⟩
              | bk e1 => exact fun ρ' F' H' σ' l' g' sl' => by obtain ⟨a1, a2, a3, a4⟩ := fin l' g'; exact ⟨a1, k ρ' _ _ σ' a3 a2 (sl'.cutF a4 hu)⟩
              | ct e1 => exact fun ρ' F' H' σ' l' g' sl' => by obtain ⟨a1, a2, a3, a4⟩ := fin l' g'; exact ⟨a1, k ρ' _ _ σ' a3 a2 (sl'.cutF a4 hu)⟩
            · exact False.elim k
        · exact False.elim k
      · exact False.elim k
    · exact False.elim k
theorem es_lock (fo : Ex) (h : ES J X W e fe) : ES J X W e (eLock fo fe) :=
  PE.imp (pe_lock h) fun σ H Q ⟨env, ρ, F, s, g, l, k⟩ => by
    unfold eLock at k
    split at k
    · rename_i i s0 hfo
      split at k
      · rename_i mo hs
        split at k
        · rename_i mo' hm
          obtain ⟨d, hd⟩ := lock_at g hs
          obtain ⟨u, hH, mu, hu, hF, gl⟩ := g.lock hd hs hm
          refine ⟨d, u, hH, mu, fun od => ⟨env, ρ, _, _, gl od, ⟨l.len, fun j x e => by obtain ⟨v, q, r⟩ := l.at_ j x e; exact ⟨v, q, Den.monoD (LD.upd hF) x v r⟩⟩, ?_⟩⟩
          have hdm : d ∈ ρ := List.mem_of_getElem? hd
          cases er : fe env (s.set i mo') with
          | bad => rw [er] at k; exact k
          | exc c s1 => rw [er] at k; exact False.elim k
          | ok x s1 =>
            rw [er] at k
            simp only [unlockO] at k
            split at k
            · rename_i hs1
              exact fun ρ' F' H' v l' g' r' => by
                have hF' : F' d = some (.frz od u) := l'.ld.sub _ _ upd_same
                obtain ⟨a1, a2⟩ := g'.unlock (l'.ld.get hd) hs1 hm hF' hu
                exact ⟨a1, k ρ' _ _ v (LE.locked hdm hF hH l') a2 (Den.cutF hF' hu x v r')⟩
            · exact False.elim k
        · exact False.elim k
      · exact False.elim k
    · exact False.elim k
end
end Pd
namespace Pd
open PySem L2
/-! ### d.keys(), any keys, d locked -/
section
variable {X : Cx} {tg e : Expr} {td : TE} {apos cpos : Pos}
theorem raw_noDict {s : Shared} {d : Addr} {o : Obj} (h : s.heap.get? d = some o) (hx : o.ExactDict) : ∀ x, Value.ref d = .ref x → ∃ o, s.heap.get? x = some o ∧ o.dict = none := fun x e => by
  cases e
  exact ⟨o, h, hx.2.1⟩
theorem pi_keysA (he : PE X e td) (hbase : attributeBase e "keys" X.env (eval e X.env) = eval e X.env := by rfl) (hline : (apos.endLine == cpos.line) = true := by rfl) : PI X tg (.Call (.Attribute e "keys" apos) [] [] cpos) (iKeys td) := by
  refine ⟨fun pins s σ H R I h => ?_⟩
  refine wpAny_Call_method (T := "dict") (id := "dict.keys") hbase rfl hline PySem.F.plainAttrs_dict PySem.F.slot_dict_keys PySem.F.type_dict_keys (thn (he.run pins s σ H _ I h) fun u s1 ⟨x, H1, I1, rx, d, o, ex, q⟩ => ?_)
  subst ex
  obtain rfl : u = Value.ref d := rx
  have I2 : Inv X pins σ H1 { s1 with heap := s1.heap.push { cls := .type "dict_keys", data := .fields #[.ref d] } } := I1.kept (t' := s1.toks) fun b ob q => Heap.get?_push_of_some _ q
  rcases q with ⟨kvs, hd, q⟩ | ⟨kvs, hd, q⟩
  · obtain ⟨hs, hgd, hx, es, ep, vs, hdt, hsz, kv, hm⟩ := I1.frzK hd
    have raw : s1.heap.DictRaw d es ep := ⟨o, hgd, hx, hdt⟩
    refine ⟨raw.typeIs, raw_noDict hgd hx, ?_⟩
    have fin : wpAny (model X.prog X.w) X.A (pyIter (.ref s1.heap.objs.size)) (PIE X pins σ tg R) X.xe { s1 with heap := s1.heap.push { cls := .type "dict_keys", data := .fields #[.ref d] } } := by
      refine PySem.wpAny_pyIter_keys_raw (d := d) (es := es) (ep := ep) ⟨_, Heap.get?_push_size _ rfl, rfl, rfl⟩ (raw.at fun o h => Heap.get?_push_of_some _ h) (pi_one (tk := s1.toks) I2 _ (turn_keys _ hdt) ⟨_, Heap.get?_push_size _ rfl, rfl, ?_⟩ q)
      rw [hsz] <;> rfl
    show wpAny _ _ (callWith cpos (.builtin "dict.keys") [.ref d] [] []) _ X.xe s1
    exact method_meetsIn PySem.F.slot_dict_keys PySem.F.entry_dict_keys rfl (PySem.evalArgs_none ⟨rfl, raw.typeIs, PySem.F.args_dict_keys_1 _, _, PySem.meets_dict_keys_raw d hs, ⟨es, ep, raw⟩, fin⟩)
  · obtain ⟨hs, hgd, hx, es, ep, hdt, hsz, ent⟩ := I1.frzT hd
    have raw : s1.heap.DictRaw d es ep := ⟨o, hgd, hx, hdt⟩
    refine ⟨raw.typeIs, raw_noDict hgd hx, ?_⟩
    have fin : wpAny (model X.prog X.w) X.A (pyIter (.ref s1.heap.objs.size)) (PIE X pins σ tg R) X.xe { s1 with heap := s1.heap.push { cls := .type "dict_keys", data := .fields #[.ref d] } } := by
      refine PySem.wpAny_pyIter_keys_raw (d := d) (es := es) (ep := ep) ⟨_, Heap.get?_push_size _ rfl, rfl, rfl⟩ (raw.at fun o h => Heap.get?_push_of_some _ h) (pi_one (tk := s1.toks) I2 _ (turn_keysT _ hdt) ⟨_, Heap.get?_push_size _ rfl, rfl, ?_⟩ q)
      rw [hsz] <;> rfl
    show wpAny _ _ (callWith cpos (.builtin "dict.keys") [.ref d] [] []) _ X.xe s1
    exact method_meetsIn PySem.F.slot_dict_keys PySem.F.entry_dict_keys rfl (PySem.evalArgs_none ⟨rfl, raw.typeIs, PySem.F.args_dict_keys_1 _, _, PySem.meets_dict_keys_raw d hs, ⟨es, ep, raw⟩, fin⟩)
end
/-! ### the walk by meanings -/
def keyDt : Key → Dt
  | .inl i => .int i
  | .inr x => .str x
def keysDt (k : List Key) : Dt := .tup (k.map keyDt)
section
variable {Γ : Wd} {ρ : List Addr} {F H : Hp} {s : Sto}
theorem Den.ofKey {k : Key} (h : kOk k = true) : Den Γ ρ F (keyDt k) (kV k) := by
  cases k with
  | inl i => simp only [keyDt, Den]; rfl
  | inr x => simp only [keyDt, Den]; exact ⟨rfl, h⟩
theorem Dens.ofKeys : ∀ {ks : List Key}, ks.all kOk = true → Dens Γ ρ F (ks.map keyDt) (ks.map kV)
  | [], _ => by simp only [List.map_nil, Dens]
  | k :: ks, h => by
    simp only [List.all_cons, Bool.and_eq_true] at h
    simp only [List.map_cons, Dens]
    exact ⟨_, _, rfl, Den.ofKey h.1, Dens.ofKeys h.2⟩
theorem DenK.get {κ : Type} : ∀ {kvs : List (κ × Dt)} {vs : List (κ × V)} {i : Nat} {k : κ} {v : V}, DenK Γ ρ F kvs vs → vs[i]? = some (k, v) → ∃ d, kvs[i]? = some (k, d)
  | [], vs, i, k, v, h, e => by simp only [DenK] at h; subst h; simp at e
  | (f, d) :: r, vs, i, k, v, h, e => by
    obtain ⟨w, r', e1, q, t⟩ := h
    subst e1
    cases i with
    | zero => simp at e; exact ⟨d, by simp [e.1]⟩
    | succ i => simp at e; obtain ⟨d', h'⟩ := DenK.get t e; exact ⟨d', by simpa using h'⟩
/-- a tuple that stands in the heap is taken for known -/
theorem G.adopt (g : G Γ ρ F s H) {q : Addr} {xs : List V} (hq : H q = some (.tup xs)) : ∃ F', LE ρ F H ρ F' H ∧ G Γ ρ F' s H ∧ F' q = some (.tup xs) := by
  cases e : F q with
  | some o =>
    have := g.sub _ _ e
    rw [hq] at this
    cases this
    exact ⟨F, LE.refl, g, e⟩
  | none =>
    have nr : q ∉ ρ := fun h => by
      obtain ⟨i, hi, e2⟩ := List.mem_iff_getElem.mp h
      have hs : i < s.length := by rw [← g.len]; exact hi
      have ok := g.at_ i q s[i] (by rw [← e2]; exact List.getElem?_eq_getElem hi) (List.getElem?_eq_getElem hs)
      generalize s[i] = mo at ok
      cases mo with
      | lst l => obtain ⟨_, _, h, _⟩ := ok; rw [hq] at h; cases h
      | ins c fs => obtain ⟨_, _, _, _, h, _⟩ := ok; rw [hq] at h; cases h
      | dic l => obtain ⟨_, _, h, _⟩ := ok; rw [hq] at h; cases h
      | dit l => obtain ⟨_, _, h, _⟩ := ok; rw [hq] at h; cases h
      | dicL l => obtain ⟨_, _, _, h, _⟩ := ok; rw [hq] at h; cases h.1
      | ditL l => obtain ⟨_, _, _, h, _⟩ := ok; rw [hq] at h; cases h.1
    have ld : LD ρ F ρ (upd F q (.tup xs)) := LD.upd e
    refine ⟨upd F q (.tup xs), ⟨ld, fun _ h => .inl h, fun a o h => ?_, fun _ _ h _ => h, fun _ o h => ⟨o, h⟩⟩, ⟨fun a o h => ?_, g.len, g.nd, fun a h => ?_, fun i a mo h1 h2 => (g.at_ i a mo h1 h2).mono ld rfl⟩, upd_same⟩
    · by_cases ea : a = q
      · subst ea; exact .inr (.inr ⟨nr, xs, hq⟩)
      · rw [upd_ne ea] at h; exact .inl ⟨o, h⟩
    · by_cases ea : a = q
      · subst ea; rw [upd_same] at h; cases h; exact hq
      · rw [upd_ne ea] at h; exact g.sub _ _ h
    · rw [upd_ne (fun z => nr (by rw [← z]; exact h))]; exact g.sep a h
theorem its_keys {i : Nat} {d : Addr} {od : Obj} {kvs : List (Key × Dt)} {vs : List (Key × V)} (hi : ρ[i]? = some d) (hF : F d = some (.frz od (.dK vs))) (t : DenK Γ ρ F kvs vs) (hz : kvs.length ≤ sizeLine) (hk : ∀ kv ∈ kvs, kOk kv.1 = true) :
    ItS Γ ρ F (Itk d od vs) (kvs.map fun kv => keyDt kv.1) (fun s => s[i]? = some (.dicL kvs)) where
  len := by rw [List.length_map]; exact hz
  go := fun j ρ1 F1 s H ld g ok h => ⟨g.sub _ _ (ld.sub _ _ hF), by rw [← t.length]; rw [List.length_map] at h; exact h⟩
  stop := fun j ρ1 F1 s H ld g ok h => ⟨g.sub _ _ (ld.sub _ _ hF), by rw [← t.length]; rw [List.length_map] at h; exact Nat.le_of_eq h.symm⟩
  yld := fun j ρ1 F1 s H x v H' ld g ok hx y => by
    obtain ⟨e1, k, w, e2, e3⟩ := y
    subst e1
    obtain ⟨dd, h1⟩ := t.get e2
    rw [List.getElem?_map, h1] at hx
    cases hx
    subst e3
    exact ⟨F1, LE.refl, g, Den.ofKey (hk _ (List.mem_of_getElem? h1))⟩
theorem its_keysT {i : Nat} {d : Addr} {od : Obj} {kvs : List (List Key × Dt)} {vs : List (List Key × V)} (hi : ρ[i]? = some d) (hF : F d = some (.frz od (.dT vs))) (t : DenK Γ ρ F kvs vs) (hz : kvs.length ≤ sizeLine) (hk : ∀ kv ∈ kvs, kv.1.all kOk = true) (hs : ∀ kv ∈ kvs, kv.1.length ≤ 1000) :
    ItS Γ ρ F (Itkt d od vs) (kvs.map fun kv => keysDt kv.1) (fun s => s[i]? = some (.ditL kvs)) where
  len := by rw [List.length_map]; exact hz
  go := fun j ρ1 F1 s H ld g ok h => ⟨g.sub _ _ (ld.sub _ _ hF), by rw [← t.length]; rw [List.length_map] at h; exact h⟩
  stop := fun j ρ1 F1 s H ld g ok h => ⟨g.sub _ _ (ld.sub _ _ hF), by rw [← t.length]; rw [List.length_map] at h; exact Nat.le_of_eq h.symm⟩
  yld := fun j ρ1 F1 s H x v H' ld g ok hx y => by
    obtain ⟨e1, k, w, q, e2, e3, e4⟩ := y
    subst e1
    obtain ⟨dd, h1⟩ := t.get e2
    rw [List.getElem?_map, h1] at hx
    cases hx
    subst e3
    obtain ⟨F', l', g', hq⟩ := g.adopt e4
    refine ⟨F', l', g', ?_⟩
    simp only [keysDt, Den]
    exact ⟨by rw [List.length_map, sizeLine_eq]; have h9 : k.length ≤ 1000 := hs _ (List.mem_of_getElem? h1); omega, q, _, rfl, hq, Dens.ofKeys (hk _ (List.mem_of_getElem? h1))⟩
end
/-- the keys of a locked dict -/
def iKeysL (f : Ex) : Is := fun env => bnd (f env) fun d s => match d with
  | .obj i => match s[i]? with
    | some (.dicL kvs) => .ok (kvs.map fun kv => keyDt kv.1, fun s' => s'[i]? = some (.dicL kvs)) s
    | some (.ditL kvs) => if kvs.all (fun kv => decide (kv.1.length ≤ 1000)) = true then .ok (kvs.map fun kv => keysDt kv.1, fun s' => s'[i]? = some (.ditL kvs)) s else .bad
    | _ => .bad
  | _ => .bad
section
variable {J : Cn} {X : Cx} {W : WX} {e tgt : Expr} {fe : Ex} {apos cpos : Pos}
theorem is_keys (h : ES J X W e fe) (hbase : attributeBase e "keys" X.env (eval e X.env) = eval e X.env := by rfl) (hline : (apos.endLine == cpos.line) = true := by rfl) : IS J X W tgt (.Call (.Attribute e "keys" apos) [] [] cpos) (iKeysL fe) :=
  PI.imp (pi_keysA h hbase hline) fun σ H R ⟨env, ρ, F, s, g, l, k⟩ => ⟨env, ρ, F, s, g, l, Po.bind k fun d s1 ρ1 F1 H1 v e1 l1 g1 r1 k1 => by
    cases d with
    | obj i =>
      simp only [Den] at r1
      obtain ⟨a, ea, q⟩ := r1
      simp only [] at k1
      split at k1
      · rename_i kvs hs
        obtain ⟨⟨z1, z2⟩, od, vs, hx, t⟩ := g1.at_ i a _ q hs
        exact ⟨a, od, ea, .inl ⟨vs, hx.1, k1 ρ1 F1 H1 _ LE.refl g1 (its_keys q hx.2 t z1 z2)⟩⟩
      · rename_i kvs hs
        split at k1
        · rename_i hl
          obtain ⟨⟨z1, z2⟩, od, vs, hx, t⟩ := g1.at_ i a _ q hs
          exact ⟨a, od, ea, .inr ⟨vs, hx.1, k1 ρ1 F1 H1 _ LE.refl g1 (its_keysT q hx.2 t z1 z2 (fun kv hkv => by simpa using List.all_eq_true.mp hl kv hkv))⟩⟩
        · exact False.elim k1
      · exact False.elim k1
    | _ => exact False.elim k1⟩
end
end Pd
namespace Pd
open PySem L2
/-- an object comes to be the store's -/
theorem G.newAt {Γ : Wd} {ρ : List Addr} {F H : Hp} {s : Sto} (g : G Γ ρ F s H) {p : Addr} {o : HO} {mo : Mo} (hp : p ∉ ρ) (hf : F p = none) (hm : MoOk Γ (ρ ++ [p]) F (upd H p o) p mo) : G Γ (ρ ++ [p]) F (s ++ [mo]) (upd H p o) where
  sub := fun a u e => by
    rw [upd_ne (fun z => by rw [z, hf] at e; cases e)]; exact g.sub _ _ e
  len := by simp [g.len]
  nd := by
    refine List.nodup_append.mpr ⟨g.nd, by simp, fun a ha b hb => ?_⟩
    rw [List.mem_singleton] at hb
    rw [hb]
    exact fun z => hp (by rw [← z]; exact ha)
  sep := fun a h => by
    rcases List.mem_append.mp h with h | h
    · exact g.sep a h
    · rw [List.mem_singleton] at h; rw [h]; exact .inl hf
  at_ := fun i a m h1 h2 => by
    by_cases hi : i < ρ.length
    · rw [List.getElem?_append_left hi] at h1
      rw [List.getElem?_append_left (by rw [← g.len]; exact hi)] at h2
      exact (g.at_ i a m h1 h2).mono LD.push (upd_ne fun z => hp (by rw [← z]; exact List.mem_of_getElem? h1))
    · rw [List.getElem?_append_right (by omega)] at h1
      rw [List.getElem?_append_right (by rw [← g.len]; omega)] at h2
      have e0 : i - ρ.length = 0 := by
        have := (List.getElem?_eq_some_iff.mp h1).1
        simp at this
        omega
      rw [e0] at h1
      rw [← g.len, e0] at h2
      have e1 : p = a := Option.some.inj h1
      have e2 : mo = m := Option.some.inj h2
      subst e1; subst e2
      exact hm
theorem LE.newAt {ρ ρ1 : List Addr} {F F1 H H1 : Hp} {p : Addr} {o : HO} (l : LE ρ F H ρ1 F1 H1) (hp : H p = none) : LE ρ F H (ρ1 ++ [p]) F1 (upd H1 p o) where
  ld := l.ld.trans LD.push
  fr := fun a h => by
    rcases List.mem_append.mp h with h | h
    · exact l.fr a h
    · rw [List.mem_singleton] at h; rw [h]; exact .inr hp
  ff := l.ff
  keep := fun a u h n => by rw [upd_ne (ne_of_none h hp)]; exact l.keep a u h n
  there := fun a u h => by rw [upd_ne (ne_of_none h hp)]; exact l.there a u h
theorem nodup_inr {α β : Type} : ∀ {l : List β}, l.Nodup → (l.map (Sum.inr : β → α ⊕ β)).Nodup
  | [], _ => List.nodup_nil
  | x :: l, h => by
    rw [List.nodup_cons] at h
    rw [List.map_cons, List.nodup_cons]
    refine ⟨fun z => ?_, nodup_inr h.2⟩
    obtain ⟨y, hy, e⟩ := List.mem_map.mp z
    cases e
    exact h.1 hy
section
variable {J : Cn} {X : Cx} {W : WX} {a b c e e2 : Expr} {es : List Expr} {fa fb fc fe : Ex} {fs : List Ex} {pos p p2 : Pos}
/-! ### str(n) -/
def strI (i : Int) : Str := Str.ofString (toString i)
def dStr (d : Dt) (s : Sto) : Out Dt := match d with
  | .int i => if decide (i.natAbs < 2 ^ 64) && sok (strI i) then .ok (.str (strI i)) s else .bad
  | _ => .bad
theorem b_str : B1 J X (.type "str") dStr := ⟨_, call_str_int, fun ρ F s H x dx Q E g rx k => by
  cases dx with
  | int i =>
    simp only [Den] at rx
    subst rx
    simp only [dStr] at k
    split at k
    · rename_i h
      rw [Bool.and_eq_true, decide_eq_true_eq] at h
      refine ⟨i, rfl, ?_, k ρ F H _ LE.refl g (by simp only [Den]; exact ⟨rfl, h.2⟩)⟩
      by_cases h0 : i.natAbs = 0
      · rw [h0]; decide
      · exact Nat.lt_trans ((Nat.log2_lt h0).mpr h.1) (by decide)
    · exact False.elim k
  | _ => exact False.elim k⟩
/-! ### list(range(a, b)) -/
def rgD (i j : Int) : List Dt := (List.range (j - i).toNat).map fun (k : Nat) => .int (i + k)
theorem dens_rg {Γ : Wd} {ρ : List Addr} {F : Hp} (i : Int) : ∀ l : List Nat, Dens Γ ρ F (l.map fun (k : Nat) => .int (i + k)) (l.map fun (k : Nat) => V.int (i + k))
  | [] => by simp only [List.map_nil, Dens]
  | k :: l => by
    simp only [List.map_cons, Dens]
    exact ⟨_, _, rfl, by simp only [Den], dens_rg i l⟩
def eListRg (nw : List Dt → Sto → Out Dt) (fa fb : Ex) : Ex := eOp (fun x y s => match x, y with
  | .int i, .int j => if decide (-(2 ^ 62) ≤ i ∧ i < 2 ^ 62 ∧ -(2 ^ 62) ≤ j ∧ j < 2 ^ 62 ∧ (j - i).toNat ≤ 2 ^ 24) = true then nw (rgD i j) s else .bad
  | _, _ => .bad) fa fb
theorem es_listRg {pos2 : Pos} {nw : List Dt → Sto → Out Dt} (n : IsNw nw) (hc : X.calm = true) (hg : Gl X "list") (hm : X.mg "list" = none) (hg2 : Gl X "range") (hm2 : X.mg "range" = none) (ha : ES J X W a fa) (hb : ES J X W b fb)
    (na : starEach [a, b] X.env = (false, eval a X.env) :: starEach [b] X.env := by rfl) (nb : starEach [b] X.env = (false, eval b X.env) :: starEach [] X.env := by rfl) (nd : (backTo pos (starEach [b] X.env)).any (·.1) = false := by rfl)
    (nc : starEach [.Call (.Name "range" p2) [a, b] [] pos] X.env = (false, eval (.Call (.Name "range" p2) [a, b] [] pos) X.env) :: starEach [] X.env := by rfl) :
    ES J X W (.Call (.Name "list" p) [.Call (.Name "range" p2) [a, b] [] pos] [] pos2) (eListRg nw fa fb) :=
  PE.imp (pe_listRg hc hg hm (prg_2 hg2 hm2 ha hb na nb nd) nc) fun σ H Q ⟨env, ρ, F, s, g, l, k⟩ => ⟨env, ρ, F, s, g, l, Po.bind k fun x s1 ρ1 F1 H1 v e1 l1 g1 r1 k1 => ⟨env, ρ1, F1, s1, g1, l.mono l1, Po.bind k1 fun y s2 ρ2 F2 H2 u e2 l2 g2 r2 k2 => by
    have r1' := Den.mono l2 _ _ r1
    cases x with
    | int i =>
      cases y with
      | int j =>
        simp only [Den] at r1' r2
        simp only at k2
        split at k2
        · rename_i h
          have h := of_decide_eq_true h
          refine ⟨i, j, r1', r2, h, fun q hq => new_lst n g2 (dens_rg i _) ?_ hq k2⟩
          have := h.2.2.2.2
          rw [List.length_map, List.length_range, sizeLine_eq]
          omega
        · exact False.elim k2
      | _ => exact False.elim k2
    | _ => exact False.elim k2⟩⟩
/-! ### {"k": v, ..} -/
def trsOf (Γ : Wd) (W : WX) : List Str → List Ex → List (TE × TE)
  | k :: ks, f :: fs => (tC (.str k), tE Γ W f) :: trsOf Γ W ks fs
  | _, _ => []
theorem dps_nil : PPs X pos [] [] (trsOf (wd J X) W [] []) := pps_nil
theorem dps_cons {k : Str} {ks : List Str} {kes : List (Option Expr)} {j} {kp : Pos} (hv : ES J X W e fe) (hr : PPs X pos kes es (trsOf (wd J X) W ks fs)) :
    PPs X pos (some (.Constant (.str k) j kp) :: kes) (e :: es) (trsOf (wd J X) W (k :: ks) (fe :: fs)) := pps_cons pe_str hv hr
theorem tPairs_mono {Γ : Wd} {W : WX} {σ : St} : ∀ {ks : List Str} {fs : List Ex} {H : Hp} {Q Q' : List (V × V) → Hp → Prop}, tPairs (trsOf Γ W ks fs) σ H Q → (∀ ps H', Q ps H' → Q' ps H') → tPairs (trsOf Γ W ks fs) σ H Q'
  | [], [], H, Q, Q', h, k => k _ _ h
  | [], _ :: _, H, Q, Q', h, k => k _ _ h
  | _ :: _, [], H, Q, Q', h, k => k _ _ h
  | z :: ks, f :: fs, H, Q, Q', ⟨env, ρ, F, s, g, l, h⟩, k => ⟨env, ρ, F, s, g, l, h.mono LE.refl (fun v H1 q => tPairs_mono q fun ps H' q => k _ _ q) fun _ _ q => q⟩
theorem pairs_of {Γ : Wd} {W : WX} {σ : St} {env : En} {Q : List V → Hp → Prop} : ∀ {ks : List Str} {fs : List Ex} {ρ : List Addr} {F H : Hp} {s : Sto}, ks.length = fs.length → G Γ ρ F s H → Sl Γ ρ F env σ → APo Γ ρ F H Q (fun c H' => W c none σ H') (evs fs env s) →
    tPairs (trsOf Γ W ks fs) σ H fun ps H' => ∃ xs, ps = (ks.map V.str).zip xs ∧ Q xs H'
  | [], [], ρ, F, H, s, _, g, l, k => ⟨[], rfl, k ρ F H [] LE.refl g (by simp only [Dens])⟩
  | [], _ :: _, _, _, _, _, h, _, _, _ => by simp at h
  | _ :: _, [], _, _, _, _, h, _, _, _ => by simp at h
  | z :: ks, f :: fs, ρ, F, H, s, h, g, l, k => by
    refine ⟨env, ρ, F, s, g, l, Po.bind k fun x s1 ρ1 F1 H1 v e1 l1 g1 r1 k1 => ?_⟩
    have := pairs_of (W := W) (ks := ks) (fs := fs) (Q := fun xs H' => Q (v :: xs) H') (by simpa using h) g1 (l.mono l1) (Po.bind k1 fun ds s2 ρ2 F2 H2 us e2 l2 g2 r2 k2 => ?_)
    · refine tPairs_mono this fun ps H' ⟨xs, e, q⟩ => ⟨v :: xs, by rw [e]; rfl, q⟩
    · exact k2 ρ2 F2 H2 (v :: us) LE.refl g2 (by simp only [Dens]; exact ⟨v, us, rfl, Den.mono l2 _ _ r1, r2⟩)
theorem denK_zip {Γ : Wd} {ρ : List Addr} {F : Hp} : ∀ {ks : List Key} {ds : List Dt} {xs : List V}, Dens Γ ρ F ds xs → DenK Γ ρ F (ks.zip ds) (ks.zip xs)
  | [], ds, xs, _ => by simp [DenK]
  | k :: ks, [], xs, h => by simp only [Dens] at h; subst h; simp [DenK]
  | k :: ks, d :: ds, xs, h => by
    simp only [Dens] at h
    obtain ⟨v, r, e, q, t⟩ := h
    subst e
    exact ⟨v, _, rfl, q, denK_zip t⟩
theorem merge_new : ∀ {more acc : List (Key × V)}, ((acc ++ more).map (·.1)).Nodup → mergeK acc more = acc ++ more
  | [], acc, _ => by simp [mergeK]
  | kv :: more, acc, h => by
    have h1 : valV acc kv.1 = none := by
      unfold valV
      rw [Option.map_eq_none_iff, List.find?_eq_none]
      intro x hx hd
      have hd := of_decide_eq_true hd
      rw [List.map_append, List.map_cons] at h
      exact (List.nodup_append.mp h).2.2 x.1 (List.mem_map.mpr ⟨x, hx, rfl⟩) kv.1 (List.mem_cons_self) hd
    have h2 : putK acc kv.1 kv.2 = acc ++ [kv] := putK_new kv.2 h1
    show mergeK (putK acc kv.1 kv.2) more = _
    rw [h2, merge_new (by rw [List.append_assoc]; exact h), List.append_assoc]
    rfl
theorem zip_kV : ∀ (ks : List Str) (xs : List V), (ks.map V.str).zip xs = (((ks.map Sum.inr : List Key).zip xs).map fun kv => (kV kv.1, kv.2))
  | [], xs => rfl
  | z :: ks, [] => rfl
  | z :: ks, x :: xs => by simp only [List.map_cons, List.zip_cons_cons, zip_kV ks xs]; rfl
def eDisp (ks : List Str) (fs : List Ex) : Ex := fun env => bnd (evs fs env) fun ds s => .ok (.obj s.length) (s ++ [.dic ((ks.map Sum.inr).zip ds)])
theorem es_disp {ks : List Str} {kes : List (Option Expr)} (h : PPs X pos kes es (trsOf (wd J X) W ks fs)) (hk : (ks.all sok && decide ks.Nodup && decide (ks.length = fs.length) && decide (ks.length ≤ 15)) = true := by decide +kernel)
    (hall : kes.all (·.isSome) = true := by rfl) (hl : kes.length = es.length := by rfl) (h0 : kes ≠ [] := by simp) (h15 : kes.length ≤ 15 := by decide) : ES J X W (.Dict kes es pos) (eDisp ks fs) :=
  PE.imp (pe_disp h hall hl h0 h15) fun σ H Q ⟨env, ρ, F, s, g, l, k⟩ p hp => by
    simp only [Bool.and_eq_true, decide_eq_true_eq] at hk
    obtain ⟨⟨⟨k1, k2⟩, k3⟩, k4⟩ := hk
    have g0 := g.skip (.dK []) hp
    have l0 : LE ρ F H ρ F (upd H p (.dK [])) := LE.skip hp
    have np : p ∉ ρ := fun z => g.new_ne hp z rfl
    have fin : APo (wd J X) ρ F (upd H p (.dK [])) (fun xs H2 => H2 p = some (.dK []) ∧ ks.length = xs.length ∧ Q (.ref p) (upd H2 p (.dK ((ks.map Sum.inr).zip xs)))) (fun c H' => W c none σ H') (evs fs env s) := by
      unfold eDisp bnd at k
      cases e : evs fs env s with
      | ok ds s1 =>
        rw [e] at k
        intro ρ1 F1 H1 xs l1 g1 r1
        have hp1 : H1 p = some (.dK []) := l1.keep _ _ upd_same np
        have np1 : p ∉ ρ1 := fun z => by
          rcases l1.fr p z with z | z
          · exact np z
          · rw [upd_same] at z; cases z
        have hF1 : F1 p = none := by
          cases e : F1 p with
          | none => rfl
          | some o =>
            rcases l1.ff p o e with ⟨u, z⟩ | z | ⟨_, xs, z⟩
            · rw [g.fnone hp] at z; cases z
            · rw [upd_same] at z; cases z
            · rw [upd_same] at z; cases z
        have hlen : ds.length = fs.length := evs_len e
        refine ⟨hp1, by rw [k3, ← hlen, r1.length], k (ρ1 ++ [p]) F1 _ (.ref p) (LE.newAt (l0.trans l1) hp) (g1.newAt np1 hF1 ?_) ?_⟩
        · refine ⟨⟨?_, fun kv hkv => ?_⟩, _, upd_same, DenK.monoD LD.push (denK_zip r1)⟩
          · rw [List.length_zip, List.length_map, sizeLine_eq]; omega
          · obtain ⟨kk, dd⟩ := kv
            have := (List.of_mem_zip hkv).1
            obtain ⟨z, hz, e⟩ := List.mem_map.mp this
            subst e
            exact List.all_eq_true.mp k1 z hz
        · simp only [Den]
          exact ⟨p, rfl, by rw [← g1.len]; simp⟩
      | exc c s1 =>
        rw [e] at k
        exact fun ρ1 F1 H1 C l1 g1 r1 => k ρ1 F1 H1 C (l0.trans l1) g1 r1
      | bad => rw [e] at k; exact k
    refine tPairs_mono (pairs_of k3 g0 (l.mono l0) fin) fun ps H2 ⟨xs, e, q1, ql, q2⟩ => ⟨q1, (ks.map Sum.inr).zip xs, ?_, ?_, ?_⟩
    · rw [e]
      exact zip_kV ks xs
    · rw [List.length_zip, List.length_map]; omega
    · rw [merge_new]
      · exact q2
      · rw [List.nil_append, List.map_fst_zip (by rw [List.length_map]; omega)]
        exact nodup_inr k2
end
end Pd
namespace Pd
open PySem L2
section
variable {J : Cn} {X : Cx} {W : WX} {a b c e e2 : Expr} {es : List Expr} {fa fb fc fe : Ex} {fs : List Ex} {pos p p2 : Pos}
/-! ### text * n, tuple * n -/
def repS (x : Str) (n : Nat) : Str := ⟨(List.replicate n x.cps).foldl (· ++ ·) #[]⟩
theorem foldl_app : ∀ (l : List (Array Nat)) (b : Array Nat), (l.foldl (· ++ ·) b).toList = b.toList ++ (l.map (·.toList)).flatten
  | [], b => by simp
  | a :: l, b => by
    rw [List.foldl_cons, foldl_app l, List.map_cons, List.flatten_cons, Array.toList_append, List.append_assoc]
theorem repS_codes (x : Str) (n : Nat) : (repS x n).cps.toList = (List.replicate n x.cps.toList).flatten := by
  unfold repS
  rw [foldl_app, List.map_replicate]
  rfl
theorem repS_len (x : Str) (n : Nat) : (repS x n).length = n * x.length := by
  have h1 : (repS x n).length = (repS x n).cps.toList.length := by rw [Array.length_toList]; rfl
  have h2 : x.length = x.cps.toList.length := by rw [Array.length_toList]; rfl
  rw [h1, repS_codes, List.length_flatten, List.map_replicate, List.sum_replicate_nat, h2]
theorem op_repS : OpR X (binaryOp .Mult) (fun x y H Q => ∃ z k, x = .str z ∧ y = .int k ∧ 2 ≤ k ∧ 0 < z.length ∧ z.length * k.toNat ≤ 1000000 ∧ Q (.str (repS z k.toNat)) H) := by
  intro pins s σ H x y v u Q I rx ry h
  obtain ⟨z, k, rfl, rfl, h1, h2, h3, q⟩ := h
  obtain ⟨t1, rfl⟩ := rx
  obtain ⟨t2, rfl⟩ := ry
  have hk : k ≤ 1000000 := by
    have : 1 * k.toNat ≤ z.length * k.toNat := Nat.mul_le_mul_right _ h2
    omega
  have n1 : ¬ k < 1 := by omega
  have n2 : (k == 1 || z.length == 0) = false := by
    have a1 : (k == 1) = false := by simpa using (by omega : ¬ k = 1)
    have a2 : (z.length == 0) = false := by simpa using (by omega : ¬ z.length = 0)
    rw [a1, a2]; rfl
  refine P.mul_str (by
    rw [decide_eq_false (by omega), decide_eq_false (by omega)]; rfl) (fun _ _ hh => ?_) (fun _ _ => ?_) ?_
  · have : z.length ≤ 1000000 := by
      have : z.length * 1 ≤ z.length * k.toNat := Nat.mul_le_mul_left _ (by omega)
      omega
    have h5 : (1000000 : Int) ≤ (2 ^ 63 - 1) / k := by
      rw [Int.le_ediv_iff_mul_le (by omega)]
      omega
    omega
  · show Builtin.Str.tooLong _ = false
    unfold Builtin.Str.tooLong
    rw [sizeLine_eq]
    simp
    omega
  · rw [if_neg n1, if_neg (by rw [n2]; exact Bool.false_ne_true)]
    refine ⟨?_, .str _, H, I.tok _, ⟨_, rfl⟩, q⟩
    show (repS z k.toNat).length ≤ sizeLine
    rw [repS_len, sizeLine_eq, Nat.mul_comm]
    omega
def dRepS (x y : Dt) (s : Sto) : Out Dt := match x with
  | .str z => match y with
    | .int k => if decide (2 ≤ k ∧ 0 < z.length ∧ z.length * k.toNat ≤ 1000000) = true then .ok (.str (repS z k.toNat)) s else .bad
    | _ => .bad
  | _ => .bad
theorem es_repS (ha : ES J X W a fa) (hb : ES J X W b fb) : ES J X W (.BinOp a .Mult b pos) (eOp dRepS fa fb) :=
  es_op op_repS (fun ρ F s H x y dx dy Q E g rx ry k => by
    cases dx with
    | str z =>
      cases dy with
      | int m =>
        simp only [Den] at rx ry
        simp only [dRepS] at k
        split at k
        · rename_i hz
          have hz := of_decide_eq_true hz
          refine ⟨z, m, rx.1, ry, hz.1, hz.2.1, hz.2.2, k ρ F H _ LE.refl g ?_⟩
          simp only [Den]
          refine ⟨trivial, sok_of (fun c hc => ?_) (by rw [repS_len, Nat.mul_comm]; exact hz.2.2)⟩
          rw [repS_codes, List.mem_flatten] at hc
          obtain ⟨l, hl, hc⟩ := hc
          rw [(List.mem_replicate.mp hl).2] at hc
          exact sok_mem rx.2 hc
        · exact False.elim k
      | _ => exact False.elim k
    | _ => exact False.elim k) ha hb
def dRepT (x y : Dt) (s : Sto) : Out Dt := match x with
  | .tup l => match y with
    | .int k => if decide (2 ≤ k ∧ k ≤ 1000 ∧ 0 < l.length ∧ l.length ≤ 1000) = true then .ok (.tup (List.replicate k.toNat l).flatten) s else .bad
    | _ => .bad
  | _ => .bad
theorem es_repT (ha : ES J X W a fa) (hb : ES J X W b fb) : ES J X W (.BinOp a .Mult b pos) (eOp dRepT fa fb) :=
  es_op op_repT (fun ρ F s H x y dx dy Q E g rx ry k => by
    cases dx with
    | tup l =>
      cases dy with
      | int m =>
        have ry' := ry
        simp only [Den] at ry'
        simp only [dRepT] at k
        split at k
        · rename_i hz
          have hz := of_decide_eq_true hz
          obtain ⟨a, xs, e, q, t, z⟩ := g.sqT rx (l := l) rfl
          have hl := t.length
          have hlen : (List.replicate m.toNat l).flatten.length ≤ sizeLine := by
            rw [List.length_flatten, List.map_replicate, List.sum_replicate_nat, sizeLine_eq]
            have : m.toNat * l.length ≤ 1000 * 1000 := Nat.mul_le_mul (by omega) hz.2.2.2
            omega
          refine ⟨a, m, xs, e, ry', q, fun z => ?_, hz.1, hz.2.1, by omega, fun p hp => new_tup g (t.rep m.toNat) hlen hp k⟩
          rw [z] at hl
          simp at hl
          rw [hl] at hz
          simp at hz
        · exact False.elim k
      | _ => exact False.elim k
    | _ => exact False.elim k) ha hb
/-! ### a list unpacked -/
def gU (is : List Nat) : Tg := fun d env s => match asL s d with
  | some l => setAll is l env
  | none => none
theorem gs_unl {is : List Nat} {k : Nat} (hc : X.calm = true) (h : GSs J X es is) (hn : (assignEach es X.env).length = is.length := by rfl) (hst : (assignEach es X.env).findIdx? (·.1) = none := by rfl) : GS J X (.Tuple es k pos) is (gU is) :=
  PG.imp (pg_unl hc h hn hst) fun v σ H Q ⟨env, ρ, F, s, d, env', g, l, r, e, q⟩ => by
    unfold gU at e
    split at e
    · rename_i ds hd
      obtain ⟨x, xs, e1, q1, t, _⟩ := g.sqL r hd
      exact ⟨x, xs, e1, q1, by rw [← t.length, setAll_len e], env, ρ, F, s, ds, env', g, l, t, e, q⟩
    · cases e
end
end Pd
/-! The order of ints, texts and tuples of them; sorting. -/
namespace Pd
open PySem L2
def ltK : Key → Key → Bool
  | .inl i, .inl j => decide (i < j)
  | .inl _, .inr _ => true
  | .inr _, .inl _ => false
  | .inr x, .inr y => decide (x.cps.toList < y.cps.toList)
theorem str_ext {x y : Str} (h : x.cps.toList = y.cps.toList) : x = y := by
  cases x; cases y
  simp only at h
  congr
  exact Array.toList_inj.mp h
theorem nl_irr (a : List Nat) : ¬ a < a := List.lt_irrefl a
theorem nl_tri (a b : List Nat) : a < b ∨ a = b ∨ b < a := by
  rcases List.le_total a b with h | h
  · by_cases e : a = b
    · exact .inr (.inl e)
    · exact .inl (List.not_le.mp fun z => e (List.le_antisymm h z))
  · by_cases e : a = b
    · exact .inr (.inl e)
    · exact .inr (.inr (List.not_le.mp fun z => e (List.le_antisymm z h)))
theorem ltK_irr (a : Key) : ltK a a = false := by
  cases a with
  | inl i => simp [ltK]
  | inr x => simp [ltK, nl_irr]
theorem ltK_asym {a b : Key} (h : ltK a b = true) : ltK b a = false := by
  cases a <;> cases b <;> simp only [ltK, decide_eq_true_eq, decide_eq_false_iff_not] at h ⊢
  · omega
  · cases h
  · exact fun z => nl_irr _ (List.lt_trans h z)
theorem ltK_tri (a b : Key) : ltK a b = true ∨ a = b ∨ ltK b a = true := by
  cases a <;> cases b <;> simp only [ltK, decide_eq_true_eq, Sum.inl.injEq, Sum.inr.injEq]
  · omega
  · exact .inl trivial
  · exact .inr (.inr trivial)
  · rename_i x y
    rcases nl_tri x.cps.toList y.cps.toList with h | h | h
    · exact .inl h
    · exact .inr (.inl (str_ext h))
    · exact .inr (.inr h)
theorem ltK_trans {a b c : Key} (h : ltK a b = true) (k : ltK b c = true) : ltK a c = true := by
  cases a <;> cases b <;> cases c <;> simp only [ltK, decide_eq_true_eq] at h k ⊢
  · omega
  · cases k
  · cases h
  · cases h
  · cases k
  · exact List.lt_trans h k
theorem ltK_co {a c : Key} (b : Key) (h : ltK a c = true) : ltK a b = true ∨ ltK b c = true := by
  rcases ltK_tri a b with k | k | k
  · exact .inl k
  · rw [k] at h; exact .inr h
  · exact .inr (ltK_trans k h)
def lexK : List Key → List Key → Bool
  | [], [] => false
  | [], _ :: _ => true
  | _ :: _, [] => false
  | a :: as, b :: bs => if a = b then lexK as bs else ltK a b
theorem lexK_asym : ∀ {x y : List Key}, lexK x y = true → lexK y x = false
  | [], [], h => by simp [lexK] at h
  | [], _ :: _, _ => rfl
  | _ :: _, [], h => by simp [lexK] at h
  | a :: as, b :: bs, h => by
    simp only [lexK] at h ⊢
    by_cases e : a = b
    · rw [if_pos e] at h
      rw [if_pos e.symm]
      exact lexK_asym h
    · rw [if_neg e] at h
      rw [if_neg (fun z => e z.symm)]
      exact ltK_asym h
theorem lexK_tri : ∀ x y : List Key, lexK x y = true ∨ x = y ∨ lexK y x = true
  | [], [] => .inr (.inl rfl)
  | [], _ :: _ => .inl rfl
  | _ :: _, [] => .inr (.inr rfl)
  | a :: as, b :: bs => by
    simp only [lexK]
    by_cases e : a = b
    · rw [if_pos e, if_pos e.symm]
      rcases lexK_tri as bs with h | h | h
      · exact .inl h
      · exact .inr (.inl (by rw [e, h]))
      · exact .inr (.inr h)
    · rw [if_neg e, if_neg (fun z => e z.symm)]
      rcases ltK_tri a b with h | h | h
      · exact .inl h
      · exact absurd h e
      · exact .inr (.inr h)
theorem lexK_co : ∀ {x z : List Key} (y : List Key), lexK x z = true → lexK x y = true ∨ lexK y z = true
  | [], [], _, h => by simp [lexK] at h
  | [], _ :: _, [], _ => .inr rfl
  | [], _ :: _, _ :: _, _ => .inl rfl
  | _ :: _, [], _, h => by simp [lexK] at h
  | _ :: _, _ :: _, [], _ => .inr rfl
  | a :: as, c :: cs, b :: bs, h => by
    simp only [lexK] at h ⊢
    by_cases e : a = b
    · rw [if_pos e]
      rw [e] at h
      by_cases e2 : b = c
      · rw [if_pos e2] at h ⊢
        exact lexK_co bs h
      · rw [if_neg e2] at h ⊢
        exact .inr h
    · rw [if_neg e]
      by_cases e2 : b = c
      · rw [if_pos e2]
        by_cases e3 : a = c
        · exact absurd (e3.trans e2.symm) e
        · rw [if_neg e3] at h
          rw [e2]; exact .inl h
      · rw [if_neg e2]
        by_cases e3 : a = c
        · rcases ltK_tri a b with k | k | k
          · exact .inl k
          · exact absurd k e
          · exact .inr (by rw [← e3]; exact k)
        · rw [if_neg e3] at h
          exact ltK_co b h
/-- at most -/
def leKs (x y : List Key) : Bool := !lexK y x
theorem leKs_total (x y : List Key) : leKs x y = true ∨ leKs y x = true := by
  unfold leKs
  cases h : lexK y x with
  | true => exact .inr (by rw [lexK_asym h]; rfl)
  | false => exact .inl rfl
theorem leKs_antisymm {x y : List Key} (h : leKs x y = true) (k : leKs y x = true) : x = y := by
  unfold leKs at h k
  rcases lexK_tri x y with e | e | e
  · rw [e] at k; cases k
  · exact e
  · rw [e] at h; cases h
theorem leKs_trans {x y z : List Key} (h : leKs x y = true) (k : leKs y z = true) : leKs x z = true := by
  unfold leKs at h k ⊢
  cases e : lexK z x with
  | false => rfl
  | true =>
    rcases lexK_co y e with e | e
    · rw [e] at k; cases k
    · rw [e] at h; cases h
/-! sorting by keys -/
section
variable {α : Type} (f : α → List Key)
def insK (a : α) : List α → List α
  | [] => [a]
  | b :: r => if leKs (f a) (f b) = true then a :: b :: r else b :: insK a r
def sortK : List α → List α
  | [] => []
  | a :: r => insK f a (sortK r)
theorem insK_perm (a : α) : ∀ l : List α, (insK f a l).Perm (a :: l)
  | [] => List.Perm.refl _
  | b :: r => by
    unfold insK
    split
    · exact List.Perm.refl _
    · exact ((insK_perm a r).cons b).trans (List.Perm.swap _ _ _)
theorem sortK_perm : ∀ l : List α, (sortK f l).Perm l
  | [] => List.Perm.refl _
  | a :: r => (insK_perm f a _).trans ((sortK_perm r).cons a)
theorem insK_sorted (a : α) : ∀ {l : List α}, l.Pairwise (fun x y => leKs (f x) (f y) = true) → (insK f a l).Pairwise (fun x y => leKs (f x) (f y) = true)
  | [], _ => by simp [insK]
  | b :: r, h => by
    unfold insK
    rw [List.pairwise_cons] at h
    split
    · rename_i hab
      refine List.pairwise_cons.mpr ⟨fun y hy => ?_, List.pairwise_cons.mpr h⟩
      rcases List.mem_cons.mp hy with e | hy
      · rw [e]; exact hab
      · exact leKs_trans hab (h.1 y hy)
    · rename_i hab
      have hba : leKs (f b) (f a) = true := (leKs_total _ _).resolve_left hab
      refine List.pairwise_cons.mpr ⟨fun y hy => ?_, insK_sorted a h.2⟩
      rcases List.mem_cons.mp ((insK_perm f a r).mem_iff.mp hy) with e | hy
      · rw [e]; exact hba
      · exact h.1 y hy
theorem sortK_sorted : ∀ l : List α, (sortK f l).Pairwise (fun x y => leKs (f x) (f y) = true)
  | [] => List.Pairwise.nil
  | a :: r => insK_sorted f a (sortK_sorted r)
theorem sorted_unique : ∀ {l m : List α}, l.Perm m → (∀ a ∈ l, ∀ b ∈ l, f a = f b → a = b) → l.Pairwise (fun x y => leKs (f x) (f y) = true) → m.Pairwise (fun x y => leKs (f x) (f y) = true) → l = m
  | [], m, p, _, _, _ => (List.Perm.nil_eq p)
  | a :: l, [], p, _, _, _ => (List.Perm.symm p).nil_eq.symm
  | a :: l, b :: m, p, hi, h1, h2 => by
    rw [List.pairwise_cons] at h1 h2
    have e : a = b := by
      have ha : a ∈ b :: m := p.mem_iff.mp List.mem_cons_self
      have hb : b ∈ a :: l := p.mem_iff.mpr List.mem_cons_self
      rcases List.mem_cons.mp ha with e | ha
      · exact e
      · rcases List.mem_cons.mp hb with e | hb'
        · exact e.symm
        · exact hi a List.mem_cons_self b hb (leKs_antisymm (h1.1 b hb') (h2.1 a ha))
    subst e
    rw [sorted_unique ((List.perm_cons a).mp p) (fun x hx y hy => hi x (List.mem_cons_of_mem _ hx) y (List.mem_cons_of_mem _ hy)) h1.2 h2.2]
end
/-! what may be sorted -/
inductive Md where
  | i | s | t (sh : List Bool)
deriving DecidableEq
def isI : Key → Bool
  | .inl _ => true
  | .inr _ => false
def keyL : Dt → List Key
  | .int i => [.inl i]
  | .str x => [.inr x]
  | .tup l => (keysL l).getD []
  | _ => []
def okD : Md → Dt → Bool
  | .i, .int _ => true
  | .s, .str _ => true
  | .t sh, .tup l => match keysL l with
    | some ks => decide (ks.map isI = sh) && !sh.isEmpty
    | none => false
  | _, _ => false
def mdD : Dt → Option Md
  | .int _ => some .i
  | .str _ => some .s
  | .tup l => (keysL l).map fun ks => .t (ks.map isI)
  | _ => none
def sortOk : List Dt → Bool
  | [] => true
  | d :: l => match mdD d with
    | some md => (d :: l).all (okD md)
    | none => false
theorem keysL_inj : ∀ {l m : List Dt} {ks : List Key}, keysL l = some ks → keysL m = some ks → l = m
  | [], [], ks, _, _ => rfl
  | [], d :: m, ks, h, k => by
    simp only [keysL, Option.some.injEq] at h k
    subst h
    split at k <;> simp at k
  | d :: l, [], ks, h, k => by
    simp only [keysL, Option.some.injEq] at h k
    subst k
    split at h <;> simp at h
  | d :: l, e :: m, ks, h, k => by
    simp only [keysL] at h k
    split at h
    · rename_i a b h1 h2
      split at k
      · rename_i a' b' h3 h4
        simp only [Option.some.injEq] at h k
        rw [← k] at h
        injection h with e1 e2
        subst e1; subst e2
        have : d = e := by
          cases d <;> simp only [keyD, Option.some.injEq, reduceCtorEq] at h1 <;> cases e <;> simp only [keyD, Option.some.injEq, reduceCtorEq] at h3
          · rw [← h1] at h3; cases h3; rfl
          · rw [← h1] at h3; cases h3
          · rw [← h1] at h3; cases h3
          · rw [← h1] at h3; cases h3; rfl
        rw [this, keysL_inj h2 h4]
      · cases k
    · cases h
theorem okD_inj {md : Md} {a b : Dt} (ha : okD md a = true) (hb : okD md b = true) (e : keyL a = keyL b) : a = b := by
  cases md <;> cases a <;> simp only [okD, Bool.false_eq_true] at ha <;> cases b <;> simp only [okD, Bool.false_eq_true] at hb
  · simp only [keyL, List.cons.injEq, Sum.inl.injEq, and_true] at e; rw [e]
  · simp only [keyL, List.cons.injEq, Sum.inr.injEq, and_true] at e; rw [e]
  · split at ha
    · rename_i ks h1
      split at hb
      · rename_i ks' h2
        simp only [keyL, h1, h2, Option.getD_some] at e
        subst e
        rw [keysL_inj h1 h2]
      · cases hb
    · cases ha
end Pd
/-! sorted(..) in the model, of ints, texts and tuples of them. -/
namespace Pd
open PySem L2 SrtO PyProof.Rows Srt
section
variable {prog : Program} {w : World} {A : Around} {E : Value → Shared → Prop} {s : Shared}
def VKy (h : Heap) : Md → Value → List Key → Prop
  | .i, v, ks => ∃ i t, v = .int i t ∧ ks = [.inl i]
  | .s, v, ks => ∃ x t, v = .str x t ∧ ks = [.inr x]
  | .t sh, v, ks => ∃ a o n its, v = .ref a ∧ h.get? a = some o ∧ o.cls = .type "tuple" ∧ o.data = .seq its n ∧ Vals (ks.map kV) its.toList ∧ ks.map isI = sh ∧ sh ≠ []
def ltv (k : Value → List Key) (v u : Value) : Bool := lexK (k v) (k u)
theorem swoK (k : Value → List Key) : Swo (ltv k) := ⟨fun x y h => lexK_asym h, fun x y z h1 h2 => by
  unfold ltv at h1 h2 ⊢
  cases e : lexK (k z) (k x) with
  | false => rfl
  | true =>
    rcases lexK_co (k y) e with e | e
    · rw [e] at h2; cases h2
    · rw [e] at h1; cases h1⟩
theorem lexK_one (a b : Key) : lexK [a] [b] = ltK a b := by
  simp only [lexK]
  split
  · rename_i h; rw [h, ltK_irr]
  · rfl
theorem katK {KS KS' : List Key} : ∀ (ks ks' : List Key) (its its' : List Value) (i : Nat), Vals (ks.map kV) its → Vals (ks'.map kV) its' → ks.map isI = ks'.map isI → lexK KS KS' = lexK ks ks' →
    PySem.W.KatLex prog w A true false (fun r s' => s' = s ∧ r = lexK KS KS') (its.zip its') i s
  | [], [], its, its', i, r, r', _, e => by
    cases r; cases r'
    exact PySem.W.kat_nil ⟨rfl, by rw [e]; rfl⟩
  | [], _ :: _, _, _, _, _, _, h, _ => by simp at h
  | _ :: _, [], _, _, _, _, _, h, _ => by simp at h
  | a :: ks, b :: ks', its, its', i, r, r', h, e => by
    rw [List.map_cons] at r r'
    cases r with
    | cons ra rt =>
      cases r' with
      | cons rb rt' =>
        rename_i u us u' us'
        simp only [List.map_cons, List.cons.injEq] at h
        rw [List.zip_cons_cons]
        simp only [lexK] at e
        have next : a = b → PySem.W.KatGo prog w A true false (fun r s' => s' = s ∧ r = lexK KS KS') u u' (us.zip us') i true s := fun eab => by
          rw [if_pos eab] at e
          exact PySem.W.kat_yes (katK ks ks' us us' (i + 1) rt rt' h.2 e)
        cases a with
        | inl x =>
          cases b with
          | inr y => simp [isI] at h
          | inl y =>
            obtain ⟨t, rfl⟩ := ra
            obtain ⟨t', rfl⟩ := rb
            refine PySem.W.kat_cons (SeqAt.EqAt.int_int x t y t' prog w _ _ ?_)
            refine PySem.W.kat_go (fun e1 => ?_) (fun e1 => ?_)
            · exact next (by have : x = y := by simpa using e1
                             rw [this])
            · have ne : ¬ x = y := by simpa using e1
              rw [if_neg (fun z => ne (Sum.inl.inj z))] at e
              refine PySem.W.kat_no ?_
              cases i with
              | zero => exact oneLt_int ⟨rfl, by rw [e]; rfl⟩
              | succ i => exact PySem.W.kat_one _ _ (PyProof.Rows.lt_int (show s = s ∧ decide (x < y) = lexK KS KS' from ⟨rfl, by rw [e]; rfl⟩))
        | inr x =>
          cases b with
          | inl y => simp [isI] at h
          | inr y =>
            obtain ⟨t, rfl⟩ := ra
            obtain ⟨t', rfl⟩ := rb
            refine PySem.W.kat_cons (SeqAt.EqAt.str_str x t y t' prog w _ _ ?_)
            refine PySem.W.kat_go (fun e1 => ?_) (fun e1 => ?_)
            · exact next (by have : x = y := by simpa using e1
                             rw [this])
            · have ne : ¬ x = y := by simpa using e1
              rw [if_neg (fun z => ne (Sum.inr.inj z))] at e
              refine PySem.W.kat_no ?_
              cases i with
              | zero => exact PyProof.Rows.oneLt_str ⟨rfl, by rw [e]; rfl⟩
              | succ i => exact PySem.W.kat_one _ _ (PySem.P.lt_str (show s = s ∧ decide (x.cps.toList < y.cps.toList) = lexK KS KS' from ⟨rfl, by rw [e]; rfl⟩))
theorem vky_keep {h h' : Heap} {md : Md} {v : Value} {ks : List Key} (x : VKy h md v ks) (k : ∀ b o, o.cls = .type "tuple" → h.get? b = some o → h'.get? b = some o) : VKy h' md v ks := by
  cases md with
  | i => exact x
  | s => exact x
  | t sh =>
    obtain ⟨a, o, n, its, e, ho, hc, hd, r, q⟩ := x
    exact ⟨a, o, n, its, e, k a o hc ho, hc, hd, r, q⟩
theorem sortableK {a : Addr} {vs : List Value} {md : Md} {k : Value → List Key} (h2 : 2 ≤ vs.length) (hp : ∀ v ∈ vs, VKy s.heap md v (k v)) (ha : ∀ o, s.heap.get? a = some o → o.cls ≠ .type "tuple") : SortableO prog w A s a vs (ltv k) := by
  intro h' keep
  cases md with
  | i =>
    have hI : IntsAre vs (vs.map iv) := ints_iv fun v hv => by
      obtain ⟨i, t, e, _⟩ := hp v hv
      exact ⟨i, t, e⟩
    refine ⟨oneType', fun Q E hq => ?_, fun p q hm hm' => ?_⟩
    · match vs, hI, h2 with
      | v1 :: v2 :: rest, hI, _ =>
        rw [keyKind_ints hI]
        exact wpAny_pure hq
      | [], _, h => exact absurd h (by decide)
      | [v], _, h => exact absurd h (by simp)
    · obtain ⟨x, t, e, e1⟩ := hp _ hm
      obtain ⟨y, u, e', e2⟩ := hp _ hm'
      show wpAny (model prog w) A (keyLt' oneType' p.1 q.1) (fun r s' => s' = _ ∧ r = lexK (k p.1) (k q.1)) (fun _ _ => False) _
      rw [e1, e2, lexK_one, e, e', keyLt'_oneType]
      exact oneLt_int ⟨rfl, rfl⟩
  | s =>
    obtain ⟨ss, hS⟩ : ∃ ss, StrsAre vs ss := by
      clear keep ha h2
      induction vs with
      | nil => exact ⟨[], .nil⟩
      | cons v vs ih =>
        obtain ⟨ss, hs⟩ := ih fun u hu => hp u (List.mem_cons_of_mem _ hu)
        obtain ⟨x, t, e, _⟩ := hp v List.mem_cons_self
        exact ⟨x :: ss, by rw [e]; exact .cons x t hs⟩
    refine ⟨oneType', fun Q E hq => ?_, fun p q hm hm' => ?_⟩
    · match vs, hS, h2 with
      | v1 :: v2 :: rest, hI, _ =>
        rw [keyKind_strs hI]
        exact wpAny_pure hq
      | [], _, h => exact absurd h (by decide)
      | [v], _, h => exact absurd h (by simp)
    · obtain ⟨x, t, e, e1⟩ := hp _ hm
      obtain ⟨y, u, e', e2⟩ := hp _ hm'
      show wpAny (model prog w) A (keyLt' oneType' p.1 q.1) (fun r s' => s' = _ ∧ r = lexK (k p.1) (k q.1)) (fun _ _ => False) _
      rw [e1, e2, lexK_one, e, e', keyLt'_oneType]
      exact PyProof.Rows.oneLt_str ⟨rfl, rfl⟩
  | t sh =>
    have hp' : ∀ v ∈ vs, VKy h' (.t sh) v (k v) := fun v hm => vky_keep (hp v hm) fun b o c e => keep b o (fun z => by subst z; exact ha o e c) e
    obtain ⟨T, hT⟩ : ∃ T : Bool, sh.head? = some T := by
      match vs, h2, hp' with
      | v :: _, _, hp' =>
        obtain ⟨_, _, _, _, _, _, _, _, _, _, hn⟩ := hp' v List.mem_cons_self
        cases sh with
        | nil => exact absurd rfl hn
        | cons b _ => exact ⟨b, rfl⟩
      | [], h, _ => exact absurd h (by decide)
    obtain ⟨fs, h1, h3⟩ : ∃ fs, PySem.W.KatTups h' vs fs ∧ fs.length = vs.length ∧ ∀ f ∈ fs, (T = true ∧ ∃ x t, f = Value.int x t) ∨ (T = false ∧ ∃ x t, f = Value.str x t) := by
      clear keep ha h2 hp
      induction vs with
      | nil => exact ⟨[], PySem.W.KatTups.nil, rfl, fun f hf => nomatch hf⟩
      | cons v vs ih =>
        obtain ⟨fs, q1, q2, q3⟩ := ih fun u hu => hp' u (List.mem_cons_of_mem _ hu)
        obtain ⟨a, o, n, its, e, ho, hc, hd, r, hsh, hn⟩ := hp' v List.mem_cons_self
        cases hk : k v with
        | nil => rw [hk] at hsh; exact absurd hsh.symm hn
        | cons key rest =>
          rw [hk, List.map_cons] at r
          obtain ⟨il, hil⟩ : ∃ il, its.toList = il := ⟨_, rfl⟩
          rw [hil] at r
          cases r with
          | cons ra rt =>
            rename_i u us
            have hu : its[0]? = some u := by rw [← Array.getElem?_toList, hil]; rfl
            refine ⟨u :: fs, by rw [e]; exact PySem.W.KatTups.cons ho hc hd hu q1, by simp [q2], fun f hf => ?_⟩
            rcases List.mem_cons.mp hf with ef | hf
            · subst ef
              have ht : isI key = T := by
                rw [← hsh, hk, List.map_cons] at hT
                exact Option.some.inj hT
              cases key with
              | inl x => obtain ⟨t, rfl⟩ := ra; exact .inl ⟨ht.symm, x, t, rfl⟩
              | inr x => obtain ⟨t, rfl⟩ := ra; exact .inr ⟨ht.symm, x, t, rfl⟩
            · exact q3 f hf
    refine ⟨tuples' true, fun Q E hq => ?_, fun p q hm hm' => ?_⟩
    · cases T with
      | true =>
        refine PySem.W.kat_kind (T := .type "int") h1 (by omega) (fun f hm => ?_) (by rfl) ?_
        · rcases h3.2 f hm with ⟨_, x, t, rfl⟩ | ⟨e, _⟩
          · exact PySem.W.Looks.now
          · cases e
        · have e : (Value.type "int" != Value.type "tuple") = true := by first | decide +kernel | rfl | decide
          rw [e]
          exact hq
      | false =>
        refine PySem.W.kat_kind (T := .type "str") h1 (by omega) (fun f hm => ?_) (by rfl) ?_
        · rcases h3.2 f hm with ⟨e, _⟩ | ⟨_, x, t, rfl⟩
          · cases e
          · exact PySem.W.Looks.now
        · have e : (Value.type "str" != Value.type "tuple") = true := by first | decide +kernel | rfl | decide
          rw [e]
          exact hq
    · obtain ⟨a1, o1, n1, its1, e1, ho1, hc1, hd1, r1, hs1, _⟩ := hp' _ hm
      obtain ⟨a2, o2, n2, its2, e2, ho2, hc2, hd2, r2, hs2, _⟩ := hp' _ hm'
      show wpAny (model prog w) A (keyLt' (tuples' true) p.1 q.1) (fun r s' => s' = _ ∧ r = lexK (k p.1) (k q.1)) (fun _ _ => False) _
      have hsz : its1.size = its2.size := by
        have l1 : (k p.1).length = its1.size := by simpa using r1.length
        have l2 : (k q.1).length = its2.size := by simpa using r2.length
        have l3 : (k p.1).length = (k q.1).length := by simpa using congrArg List.length (hs1.trans hs2.symm)
        omega
      generalize hK1 : k p.1 = K1 at *
      generalize hK2 : k q.1 = K2 at *
      rw [e1, e2]
      refine PySem.W.kat_lt (s := { s with heap := h' }) ho1 hd1 ho2 hd2 ?_
      rw [hsz, decide_eq_false (Nat.lt_irrefl _)]
      exact katK K1 K2 its1.toList its2.toList 0 r1 r2 (hs1.trans hs2.symm) rfl
end
end Pd
namespace Pd
open PySem L2 SrtO
open PyProof.Rows (kind_sorted plain_sorted entry_sorted args_sorted1 slot_list_sort entry_list_sort args_list_sort sortedHeap_at sortedHeap_old collect_list size_push' seqObj)
def HKy (H : Hp) : Md → V → List Key → Prop
  | .i, x, ks => ∃ i, x = .int i ∧ ks = [.inl i]
  | .s, x, ks => ∃ z, x = .str z ∧ ks = [.inr z]
  | .t sh, x, ks => ∃ a, x = .ref a ∧ H a = some (.tup (ks.map kV)) ∧ ks.map isI = sh ∧ sh ≠ []
def bV : Value → V
  | .int i _ => .int i
  | .str x _ => .str x
  | .ref a => .ref a
  | _ => .non
section
variable {X : Cx} {pins : List (Addr × Obj)} {σ : St} {H : Hp} {s : Shared}
theorem hky_back {md : Md} {x : V} {ks : List Key} {v : Value} (h : HKy H md x ks) (r : RelV x v) : bV v = x ∧ RelV (bV v) v := by
  cases md with
  | i => obtain ⟨i, rfl, _⟩ := h; obtain ⟨t, rfl⟩ := r; exact ⟨rfl, t, rfl⟩
  | s => obtain ⟨i, rfl, _⟩ := h; obtain ⟨t, rfl⟩ := r; exact ⟨rfl, t, rfl⟩
  | t sh => obtain ⟨a, rfl, _⟩ := h; cases r; exact ⟨rfl, rfl⟩
theorem hky_val (I : Inv X pins σ H s) {md : Md} {x : V} {ks : List Key} {v : Value} (h : HKy H md x ks) (r : RelV x v) : VKy s.heap md v ks := by
  cases md with
  | i => obtain ⟨i, rfl, e⟩ := h; obtain ⟨t, rfl⟩ := r; exact ⟨i, t, rfl, e⟩
  | s => obtain ⟨i, rfl, e⟩ := h; obtain ⟨t, rfl⟩ := r; exact ⟨i, t, rfl, e⟩
  | t sh =>
    obtain ⟨a, rfl, ha, e⟩ := h
    cases r
    obtain ⟨_, its, r2, o, ho, hc, n, hd⟩ := I.hok _ _ ha
    exact ⟨a, o, n, its.toArray, rfl, ho, hc, hd, by simpa using r2, e⟩
theorem vals_mem : ∀ {xs : List V} {its : List Value}, Vals xs its → ∀ v ∈ its, ∃ x ∈ xs, RelV x v
  | _, _, .cons h t, v, hv => by
    rcases List.mem_cons.mp hv with e | hv
    · subst e; exact ⟨_, List.mem_cons_self, h⟩
    · obtain ⟨x, hx, r⟩ := vals_mem t v hv
      exact ⟨x, List.mem_cons_of_mem _ hx, r⟩
theorem vals_bV {md : Md} {k : V → List Key} : ∀ {xs : List V} {its : List Value}, Vals xs its → (∀ x ∈ xs, HKy H md x (k x)) → its.map bV = xs
  | _, _, .nil, _ => rfl
  | _, _, .cons h t, hk => by
    rw [List.map_cons, (hky_back (hk _ List.mem_cons_self) h).1, vals_bV t fun x hx => hk x (List.mem_cons_of_mem _ hx)]
theorem vals_self : ∀ {its : List Value}, (∀ v ∈ its, RelV (bV v) v) → Vals (its.map bV) its
  | [], _ => .nil
  | v :: its, h => .cons (h v List.mem_cons_self) (vals_self fun u hu => h u (List.mem_cons_of_mem _ hu))
/-- items that are collected, sorted into a new list -/
def SortQ (H : Hp) (xs : List V) (k : V → List Key) (Q : VK) : Prop := ∀ ys p, ys.Pairwise (fun x y => leKs (k x) (k y) = true) → ys.Perm xs → H p = none → Q (.ref p) (upd H p (.lst ys))
theorem sort_tail {A : Around} {E : Value → Shared → Prop} {r : Addr} {xs : List V} {md : Md} {k : V → List Key} {Q : VK} (I : Inv X pins σ H s) (hk : ∀ x ∈ xs, HKy H md x (k x)) (hz0 : xs.length ≤ sizeLine) (q : SortQ H xs k Q)
    (hcol : ∀ (R : List Value → Shared → Prop) (E : Value → Shared → Prop), (∀ (h' : Heap) (tk : Nat) (its : List Value), (∀ b o, s.heap.get? b = some o → h'.get? b = some o) → Vals xs its → R its { s with heap := h', toks := tk }) → wpAny (model X.prog X.w) A.in1 (collect (.ref r)) R E s) :
    wpAny (model X.prog X.w) A (call (.builtin "sorted") [.ref r]) (fun v s' => ∃ x H', Inv X pins σ H' s' ∧ RelV x v ∧ Q x H') E s := by
  refine Calls.call_function_entry kind_sorted plain_sorted entry_sorted (args_sorted1 _) ?_
  unfold Builtin.«sorted»
  refine wpAny_bind (m := checkCount "sorted" 1 1 _) (wpAny_pure ?_)
  refine wpAny_bind (hcol _ _ fun h' tk its keep rv => ?_)
  have hz : its.length ≤ sizeLine := by rw [← rv.length]; exact hz0
  have I1 : Inv X pins σ H { s with heap := h', toks := tk } := I.kept keep
  refine wpAny_bind (wpAny_newList ?_ hz)
  have hoL : (h'.push (seqObj "list" its.toArray 0)).get? h'.objs.size = some (seqObj "list" its.toArray 0) := Heap.get?_push_size _ rfl
  show wpAny _ _ _ _ _ { s with heap := h'.push (seqObj "list" its.toArray 0), toks := tk }
  have I2 : Inv X pins σ H { s with heap := h'.push (seqObj "list" its.toArray 0), toks := tk } := I1.kept fun b u e => Heap.get?_push_of_some _ e
  refine wpAny_bind (wpAny_holding (wpAny_call_entry slot_list_sort ⟨_, hoL, rfl⟩ entry_list_sort
    (list_sort_ord (swoK fun u => k (bV u)) (s := { s with heap := h'.push (seqObj "list" its.toArray 0), toks := tk }) hoL hz (fun h2 => sortableK (md := md) h2 (fun v hv => ?_) (fun o ho hc => ?_)) fun out hs hb => ⟨_, rfl, ?_⟩) (args_list_sort _)))
  · obtain ⟨x, hx, r⟩ := vals_mem rv v hv
    have := hky_val I2 (hk x hx) r
    rw [(hky_back (hk x hx) r).1]
    exact this
  · rw [hoL] at ho
    cases ho
    simp [seqObj] at hc
  · obtain ⟨e', he'⟩ := sortedHeap_at (vs := its) (out := out.toArray) hoL
    have hrel : ∀ u ∈ out, RelV (bV u) u := fun u hu => by
      obtain ⟨x, hx, r⟩ := vals_mem rv u (hb.perm.mem_iff.mp hu)
      exact (hky_back (hk x hx) r).2
    have hperm : (out.map bV).Perm xs := by
      have := hb.perm.map bV
      rw [vals_bV rv hk] at this
      exact this
    have hlen : (out.map bV).length ≤ sizeLine := by
      rw [List.length_map, hb.perm.length_eq]
      exact hz
    refine wpAny_pure ⟨_, rfl, .ref h'.objs.size, upd H h'.objs.size (.lst (out.map bV)), I1.laid (t' := tk) (fun b u e => by
        have hb' : b < h'.objs.size := Heap.lt_size e
        rw [sortedHeap_old (Nat.ne_of_lt hb') (by rw [size_push']; exact Nat.lt_succ_of_lt hb')]
        exact Heap.get?_push_of_some _ e) (Nat.le_refl _)
      (show ObjOk X.prog X.w _ _ _ (.lst (out.map bV)) from ⟨hlen, out, e', vals_self hrel, he'⟩), rfl, q _ _ ?_ hperm (I1.hok.fresh (Nat.le_refl _))⟩
    · refine List.pairwise_map.mpr (hs.imp fun {x y} h => ?_)
      unfold leKs
      unfold ltv at h
      rw [h]
      rfl
/-- sorted(l), l a list -/
def rSortedM (K : PySem.W.Frag) : List V → Hp → VK → Prop := fun vs H Q => ∃ (a : Addr) (xs : List V) (md : Md) (k : V → List Key), vs = [V.ref a] ∧ SqL K H a xs ∧ (∀ x ∈ xs, HKy H md x (k x)) ∧ SortQ H xs k Q
theorem cr_sortedM : CallR X (.builtin "sorted") (rSortedM X.K) := by
  intro pins s σ H vs us Q I r h
  obtain ⟨a, xs, md, k, rfl, hs, hk, q⟩ := h
  obtain ⟨its, rv, hl, hz⟩ := I.list hs
  obtain ⟨u, rfl, ru⟩ := vals1 r
  obtain rfl : u = Value.ref a := ru
  refine sort_tail I hk hz q fun R E hR => ?_
  refine collect_list hl.isList ?_ (by rw [← rv.length]; exact hz)
  exact hR _ _ _ (fun b o e => by
    rw [Heap.get?_update_ne _ _ _ _ (Nat.ne_of_lt (Heap.lt_size e))]
    exact Heap.get?_push_of_some _ e) rv
/-! ### d.keys() as a value -/
def KvO (v d : Addr) : HO := .ext fun h => PySem.W.KdlKeysView h v d
def tKeysV (td : TE) : TE := fun σ H Q => td σ H fun x H1 => ∃ d, x = .ref d ∧ IsD H1 d ∧ ∀ p, H1 p = none → Q (.ref p) (upd H1 p (KvO p d))
theorem pe_keysV {e : Expr} {td : TE} {apos cpos : Pos} (he : PE X e td) (hbase : attributeBase e "keys" X.env (eval e X.env) = eval e X.env := by rfl) (hline : (apos.endLine == cpos.line) = true := by rfl) : PE X (.Call (.Attribute e "keys" apos) [] [] cpos) (tKeysV td) := by
  refine ⟨fun pins s σ H Q I h => ?_⟩
  refine wpAny_Call_method (T := "dict") (id := "dict.keys") hbase rfl hline PySem.F.plainAttrs_dict PySem.F.slot_dict_keys PySem.F.type_dict_keys (thn (he.run pins s σ H _ I h) fun u s1 ⟨x, H1, I1, rx, d, ex, hd, q⟩ => ?_)
  subst ex
  obtain rfl : u = Value.ref d := rx
  obtain ⟨t1, t2, lo⟩ := isD_at I1 hd
  refine ⟨t1, t2, ?_⟩
  have raw : ∃ es ep, s1.heap.DictRaw d es ep := by
    rcases hd with ⟨kvs, hd⟩ | ⟨kvs, hd⟩
    · obtain ⟨z, lo, vs, rel, dd⟩ := dk_rd I1.hok hd
      obtain ⟨o, es, ep, ho, hx, hdt, _⟩ := dd
      exact ⟨es, ep, o, ho, hx, hdt⟩
    · obtain ⟨z, hs, ks, pr, o, es, ep, ho, hx, hdt, he, hn⟩ := (show ObjOk X.prog X.w H1 s1.heap d (.dT kvs) from hd.ok I1.hok)
      exact ⟨es, ep, o, ho, hx, hdt⟩
  show wpAny _ _ (callWith cpos (.builtin "dict.keys") [.ref d] [] []) _ X.xe s1
  refine method_meetsIn PySem.F.slot_dict_keys PySem.F.entry_dict_keys rfl (PySem.evalArgs_none ⟨rfl, t1, PySem.F.args_dict_keys_1 _, _, PySem.meets_dict_keys_raw d lo, raw, ?_⟩)
  refine ⟨.ref s1.heap.objs.size, upd H1 s1.heap.objs.size (KvO s1.heap.objs.size d), I1.laid (t' := s1.toks) (fun b u e => Heap.get?_push_of_some _ e) (Nat.le_refl _) ?_, rfl, q _ (I1.hok.fresh (Nat.le_refl _))⟩
  exact ⟨⟨_, Heap.get?_push_size _ rfl, rfl, rfl⟩, ⟨_, Heap.get?_push_size _ rfl⟩, fun h1 h2 ⟨o, ho, x⟩ k => ⟨o, k o ho, x⟩⟩
/-- the view of a dict with any keys, walked -/
theorem kdl_rawV {prog : Program} {w : World} {o : Obj} {es : Array DictEntry} {ep : Nat} {r d : Addr} (hx : o.ExactDict) (hd : o.data = .dict es ep) :
    PySem.W.KdlSrc prog w "dict_keys" r d es.size (fun i v => ∃ en : DictEntry, es[i]? = some en ∧ v = en.key) (fun h => PySem.W.KdlKeysView h r d ∧ h.get? d = some o) where
  type := fun _ hm => hm.1.typeIs
  there := fun _ hm => ⟨let ⟨_, ho, _⟩ := hm.1; Heap.lt_size ho, Heap.lt_size hm.2⟩
  keep := fun _ _ hm hk => ⟨let ⟨o, ho, x⟩ := hm.1; ⟨o, hk r (.inl rfl) o ho, x⟩, hk d (.inr rfl) _ hm.2⟩
  notList := by decide
  notTuple := by decide
  hint := fun _ _ s _ hm hq => PySem.W.kdl_hint_keys (s := s) hm.1.typeIs hq
  iter := fun _ s hh hm => ⟨_, _, (fun _ _ hq => PySem.wpAny_pyIter_keys_raw hm.1 ⟨o, hm.2, hx, hd⟩ hq), walks_raw hh _ d (Nat.ne_of_lt (Heap.lt_size hm.2)) hd, ⟨⟨_, Heap.get?_push_size _ rfl, rfl, rfl⟩, Heap.get?_push_of_some _ hm.2⟩⟩
theorem kv_get {v d : Addr} (I : Inv X pins σ H s) (hv : H v = some (KvO v d)) : PySem.W.KdlKeysView s.heap v d := (I.hok v _ hv).1
theorem ents_keys {prog : Program} {w : World} {es : Array DictEntry} {ks : List (List Key × Addr × Value)} {acc : Array Value} (he : es.toList = ks.map (entryOfKey (tupleKind (mixKind prog w)))) (it : ItemsOf (fun i v => ∃ en : DictEntry, es[i]? = some en ∧ v = en.key) acc es.size) : acc.toList = (ks.map fun x => x.2.1).map Value.ref := by
  have l1 : es.size = ks.length := size_of_entries he
  have ea : acc.toList = ks.map fun x => Value.ref x.2.1 := by
    have hl : acc.toList.length = ks.length := by rw [Array.length_toList, it.1]; exact l1
    apply List.ext_getElem?
    intro j
    rw [List.getElem?_map]
    cases hj : acc.toList[j]? with
    | none =>
      have h1 := List.getElem?_eq_none_iff.mp hj
      rw [List.getElem?_eq_none (by omega)]
      all_goals rfl
    | some v =>
      obtain ⟨en, hen, hv⟩ := it.2 j v (by rw [← Array.getElem?_toList]; exact hj)
      have qe := entry_at he j
      rw [hen] at qe
      cases hb : ks[j]? with
      | none =>
        rw [hb] at qe
        exact nomatch (show some en = none from qe)
      | some b =>
        rw [hb] at qe
        have e2 : en = entryOfKey (tupleKind (mixKind prog w)) b := Option.some.inj qe
        rw [hv, e2]
        all_goals rfl
  rw [ea, List.map_map]
  all_goals rfl
/-- list(d.keys()) -/
def rListV : List V → Hp → VK → Prop := fun xs H Q => ∃ v d, xs = [V.ref v] ∧ H v = some (KvO v d) ∧
  ((∃ kvs, Rd H d (.dK kvs) ∧ ∀ p, H p = none → Q (.ref p) (upd H p (.lst (kvs.map fun kv => kV kv.1)))) ∨ ∃ kvs, Rd H d (.dT kvs) ∧ ∀ p bs, H p = none → IsKeys H kvs bs → Q (.ref p) (upd H p (.lst (bs.map V.ref))))
theorem cr_listV (hc : X.calm = true) : CallR X (.type "list") rListV := by
  intro pins s σ H vs us Q I r h
  obtain ⟨v, d, rfl, hv, h⟩ := h
  obtain ⟨u, rfl, ru⟩ := vals1 r
  obtain rfl : u = Value.ref v := ru
  have hw := kv_get I hv
  rcases h with ⟨kvs, hd, q⟩ | ⟨kvs, hd, q⟩
  · obtain ⟨z, lo, vs, rel, dd⟩ := dk_rd I.hok hd
    obtain ⟨ep, hat⟩ := dd.dictAt
    have ek : (kvs.map fun kv => kV kv.1) = vs.map fun p => kV p.1 := by
      have e := congrArg (List.map kV) rel.keys
      rw [List.map_map, List.map_map] at e
      exact e
    refine PySem.W.kdl_call (PySem.W.kdl_keys (knd := mixKind X.prog X.w) (kvs := vs) (ep := ep)) (I.ok.hd hc) ⟨hw, hat⟩ (by rw [← rel.length]; exact z) fun h' tk acc c' hk hD hacc => ?_
    have hv : Vals (vs.map fun p => kV p.1) acc.toList := keys_at (by rw [Array.length_toList]; exact hacc.1) fun j v e => hacc.2 j v (by rw [← Array.getElem?_toList]; exact e)
    exact ⟨.ref s.heap.objs.size, upd H s.heap.objs.size (.lst (kvs.map fun kv => kV kv.1)), I.laid (t' := tk) hk (Nat.le_refl _)
      (show ObjOk X.prog X.w _ _ _ (.lst (kvs.map fun kv => kV kv.1)) from ⟨by rw [List.length_map]; exact z, acc.toList, c', by rw [ek]; exact hv, by rw [Array.toArray_toList]; exact hD⟩), rfl, q _ (I.hok.fresh (Nat.le_refl _))⟩
  · obtain ⟨z, hs, ks, pr, o, es, ep, ho, hx, hdt, he, hn⟩ := (show ObjOk X.prog X.w H s.heap d (.dT kvs) from hd.ok I.hok)
    have l1 : es.size = ks.length := size_of_entries he
    have l2 : kvs.length = ks.length := Paired.length pr
    refine PySem.W.kdl_call (kdl_rawV hx hdt) (I.ok.hd hc) ⟨hw, ho⟩ (by omega) fun h' tk acc' c' kp e it => ?_
    have eb := ents_keys he it
    have rv : Vals ((ks.map fun x => x.2.1).map V.ref) acc'.toList := by rw [eb]; exact vals_refs _
    have hz : ((ks.map fun x => x.2.1).map V.ref).length ≤ sizeLine := by rw [List.length_map, List.length_map]; omega
    refine ⟨.ref s.heap.objs.size, _, I.laid (t' := tk) (o := .lst ((ks.map fun x => x.2.1).map V.ref)) kp (Nat.le_refl _) ?_, rfl, q _ _ (I.hok.fresh (Nat.le_refl _)) (isKeys_of pr)⟩
    exact ⟨hz, acc'.toList, c', rv, by rw [Array.toArray_toList]; exact e⟩
/-- sorted(d.keys()) -/
def rSortedV : List V → Hp → VK → Prop := fun xs H Q => ∃ v d, xs = [V.ref v] ∧ H v = some (KvO v d) ∧
  ((∃ kvs md k, Rd H d (.dK kvs) ∧ (∀ x ∈ kvs.map fun kv => kV kv.1, HKy H md x (k x)) ∧ SortQ H (kvs.map fun kv => kV kv.1) k Q) ∨
    ∃ kvs, Rd H d (.dT kvs) ∧ ∀ bs, IsKeys H kvs bs → ∃ md k, (∀ x ∈ bs.map V.ref, HKy H md x (k x)) ∧ SortQ H (bs.map V.ref) k Q)
theorem cr_sortedV (hc : X.calm = true) : CallR X (.builtin "sorted") rSortedV := by
  intro pins s σ H vs us Q I r h
  obtain ⟨v, d, rfl, hv, h⟩ := h
  obtain ⟨u, rfl, ru⟩ := vals1 r
  obtain rfl : u = Value.ref v := ru
  have hw := kv_get I hv
  rcases h with ⟨kvs, md, k, hd, hk, q⟩ | ⟨kvs, hd, q⟩
  · obtain ⟨z, lo, vs, rel, dd⟩ := dk_rd I.hok hd
    obtain ⟨ep, hat⟩ := dd.dictAt
    have ek : (kvs.map fun kv => kV kv.1) = vs.map fun p => kV p.1 := by
      have e := congrArg (List.map kV) rel.keys
      rw [List.map_map, List.map_map] at e
      exact e
    refine sort_tail I hk (by rw [List.length_map]; exact z) q fun R E hR => ?_
    refine PySem.W.kdu_collect (PySem.W.kdl_keys (knd := mixKind X.prog X.w) (kvs := vs) (ep := ep)) (I.ok.hd hc) ⟨hw, hat⟩ (by rw [← rel.length]; exact z) fun h' tk acc hk hacc => ?_
    have hv : Vals (vs.map fun p => kV p.1) acc.toList := keys_at (by rw [Array.length_toList]; exact hacc.1) fun j v e => hacc.2 j v (by rw [← Array.getElem?_toList]; exact e)
    exact hR h' tk _ hk (by rw [ek]; exact hv)
  · obtain ⟨z, hs, ks, pr, o, es, ep, ho, hx, hdt, he, hn⟩ := (show ObjOk X.prog X.w H s.heap d (.dT kvs) from hd.ok I.hok)
    have l1 : es.size = ks.length := size_of_entries he
    have l2 : kvs.length = ks.length := Paired.length pr
    obtain ⟨md, k, hk, q⟩ := q _ (isKeys_of pr)
    refine sort_tail I hk (by rw [List.length_map, List.length_map]; omega) q fun R E hR => ?_
    refine PySem.W.kdu_collect (kdl_rawV hx hdt) (I.ok.hd hc) ⟨hw, ho⟩ (by omega) fun h' tk acc' kp it => ?_
    have eb := ents_keys he it
    have rv : Vals ((ks.map fun x => x.2.1).map V.ref) acc'.toList := by rw [eb]; exact vals_refs _
    exact hR h' tk _ kp rv
end
end Pd
namespace Pd
open PySem L2
/-! ### sorted, by meanings -/
def kB : V → Key
  | .int i => .inl i
  | .str x => .inr x
  | _ => .inl 0
theorem kB_kV : ∀ ks : List Key, (ks.map kV).map kB = ks
  | [] => rfl
  | k :: ks => by rw [List.map_cons, List.map_cons, kB_kV ks]; cases k <;> rfl
def vKs (H : Hp) : V → List Key
  | .int i => [.inl i]
  | .str x => [.inr x]
  | .ref a => match H a with
    | some (.tup ys) => ys.map kB
    | _ => []
  | _ => []
section
variable {Γ : Wd} {ρ : List Addr} {F H : Hp} {s : Sto}
theorem den_hky (g : G Γ ρ F s H) {md : Md} {d : Dt} {v : V} (h : Den Γ ρ F d v) (ok : okD md d = true) : HKy H md v (vKs H v) ∧ vKs H v = keyL d := by
  cases md <;> cases d <;> simp only [okD, Bool.false_eq_true] at ok
  · simp only [Den] at h; subst h; exact ⟨⟨_, rfl, rfl⟩, rfl⟩
  · simp only [Den] at h; obtain ⟨h, _⟩ := h; subst h; exact ⟨⟨_, rfl, rfl⟩, rfl⟩
  · rename_i sh l
    split at ok
    · rename_i ks hk
      simp only [Bool.and_eq_true, decide_eq_true_eq, Bool.not_eq_true'] at ok
      obtain ⟨b, e, hb, hok⟩ := Den.tupAt (ks := ks) g h hk
      subst e
      have e2 : vKs H (.ref b) = ks := by simp only [vKs, hb, kB_kV]
      refine ⟨⟨b, rfl, by rw [e2]; exact hb, by rw [e2]; exact ok.1, fun z => ?_⟩, by rw [e2]; simp only [keyL, hk, Option.getD_some]⟩
      rw [z] at ok
      simp at ok
    · cases ok
theorem dens_perm : ∀ {ys xs : List V}, ys.Perm xs → ∀ {l : List Dt}, Dens Γ ρ F l xs → ∃ l', l'.Perm l ∧ Dens Γ ρ F l' ys := by
  intro ys xs p
  induction p with
  | nil => exact fun {l} h => ⟨l, List.Perm.refl _, h⟩
  | cons x p ih =>
    intro l h
    cases l with
    | nil => simp only [Dens] at h; cases h
    | cons d l =>
      simp only [Dens] at h
      obtain ⟨v, r, e, q, t⟩ := h
      injection e with e1 e2
      subst e1; subst e2
      obtain ⟨l', p', t'⟩ := ih t
      exact ⟨d :: l', p'.cons d, by simp only [Dens]; exact ⟨_, _, rfl, q, t'⟩⟩
  | swap x y p =>
    intro l h
    cases l with
    | nil => simp only [Dens] at h; cases h
    | cons d l =>
      cases l with
      | nil =>
        simp only [Dens] at h
        obtain ⟨v, r, e, q, t⟩ := h
        subst t
        cases e
      | cons d2 l =>
        simp only [Dens] at h
        obtain ⟨v, r, e, q, v2, r2, e2, q2, t⟩ := h
        subst e2
        cases e
        exact ⟨d2 :: d :: l, List.Perm.swap _ _ _, by simp only [Dens]; exact ⟨_, _, rfl, q2, _, _, rfl, q, t⟩⟩
  | trans _ _ ih1 ih2 =>
    intro l h
    obtain ⟨l1, p1, t1⟩ := ih2 h
    obtain ⟨l2, p2, t2⟩ := ih1 t1
    exact ⟨l2, p2.trans p1, t2⟩
theorem sortOk_md {l : List Dt} (h : sortOk l = true) : ∃ md, ∀ d ∈ l, okD md d = true := by
  cases l with
  | nil => exact ⟨.i, fun d hd => nomatch hd⟩
  | cons d l =>
    simp only [sortOk] at h
    cases hm : mdD d with
    | some md => rw [hm] at h; exact ⟨md, List.all_eq_true.mp h⟩
    | none => rw [hm] at h; cases h
theorem dens_mem : ∀ {l : List Dt} {xs : List V}, Dens Γ ρ F l xs → ∀ x ∈ xs, ∃ d ∈ l, Den Γ ρ F d x
  | [], xs, h, x, hx => by simp only [Dens] at h; subst h; cases hx
  | d :: l, xs, h, x, hx => by
    simp only [Dens] at h
    obtain ⟨v, r, e, q, t⟩ := h
    subst e
    rcases List.mem_cons.mp hx with e | hx
    · subst e; exact ⟨d, List.mem_cons_self, q⟩
    · obtain ⟨d', h1, h2⟩ := dens_mem t x hx
      exact ⟨d', List.mem_cons_of_mem _ h1, h2⟩
theorem dens_pairwise (g : G Γ ρ F s H) {md : Md} : ∀ {l : List Dt} {ys : List V}, Dens Γ ρ F l ys → (∀ d ∈ l, okD md d = true) → ys.Pairwise (fun x y => leKs (vKs H x) (vKs H y) = true) → l.Pairwise (fun x y => leKs (keyL x) (keyL y) = true)
  | [], ys, _, _, _ => List.Pairwise.nil
  | d :: l, ys, h, ok, p => by
    simp only [Dens] at h
    obtain ⟨v, r, e, q, t⟩ := h
    subst e
    rw [List.pairwise_cons] at p
    refine List.pairwise_cons.mpr ⟨fun d' hd' => ?_, dens_pairwise g t (fun x hx => ok x (List.mem_cons_of_mem _ hx)) p.2⟩
    obtain ⟨i, hi, e⟩ := List.mem_iff_getElem.mp hd'
    obtain ⟨v', hv', q'⟩ := Dens.get (i := i) (d := d') t (by rw [List.getElem?_eq_getElem hi, e])
    have := p.1 v' (List.mem_of_getElem? hv')
    rw [(den_hky g q (ok d List.mem_cons_self)).2, (den_hky g q' (ok d' (List.mem_cons_of_mem _ hd'))).2] at this
    exact this
/-- what is asked of a sorted list is answered by the sorted data -/
theorem sortQ_of {nw : List Dt → Sto → Out Dt} (n : IsNw nw) {Q : VK} {E : Value → Hp → Prop} {l : List Dt} {xs : List V} (g : G Γ ρ F s H) (t : Dens Γ ρ F l xs) (hz : l.length ≤ sizeLine) (ok : sortOk l = true) (k : EPo Γ ρ F H Q E (nw (sortK keyL l) s)) :
    ∃ md, (∀ x ∈ xs, HKy H md x (vKs H x)) ∧ SortQ H xs (vKs H) Q := by
  obtain ⟨md, hok⟩ := sortOk_md ok
  refine ⟨md, fun x hx => ?_, fun ys p hp hperm hn => ?_⟩
  · obtain ⟨d, hd, q⟩ := dens_mem t x hx
    exact (den_hky g q (hok d hd)).1
  · obtain ⟨l', p', t'⟩ := dens_perm hperm t
    have hok' : ∀ d ∈ l', okD md d = true := fun d hd => hok d (p'.mem_iff.mp hd)
    have e : l' = sortK keyL l := sorted_unique keyL (p'.trans (sortK_perm keyL l).symm) (fun a ha b hb e => okD_inj (hok' a ha) (hok' b hb) e) (dens_pairwise g t' hok' hp) (sortK_sorted keyL l)
    subst e
    exact new_lst n g t' (by rw [(sortK_perm keyL l).length_eq]; exact hz) hn k
end
def dSorted (nw : List Dt → Sto → Out Dt) (d : Dt) (s : Sto) : Out Dt := match asL s d with
  | some l => if sortOk l = true then nw (sortK keyL l) s else .bad
  | none => .bad
section
variable {J : Cn} {X : Cx} {W : WX} {a b c e e2 : Expr} {es : List Expr} {fa fb fc fe : Ex} {fs : List Ex} {pos p p2 apos cpos : Pos}
theorem b_sorted {nw : List Dt → Sto → Out Dt} (n : IsNw nw) : B1 J X (.builtin "sorted") (dSorted nw) := ⟨_, cr_sortedM, fun ρ F s H x dx Q E g rx k => by
  unfold dSorted at k
  split at k
  · rename_i l hl
    split at k
    · rename_i hok
      obtain ⟨a, xs, e1, q, t, z⟩ := g.sqL rx hl
      subst e1
      obtain ⟨md, h1, h2⟩ := sortQ_of n g t z hok k
      exact ⟨a, xs, md, _, rfl, q, h1, h2⟩
    · exact False.elim k
  · exact False.elim k⟩
/-- the keys of a dict of the store, as data -/
def keysOf (s : Sto) : Dt → Option (List Dt)
  | .obj i => match s[i]? with
    | some (.dic kvs) => some (kvs.map fun kv => keyDt kv.1)
    | some (.dicL kvs) => some (kvs.map fun kv => keyDt kv.1)
    | some (.dit kvs) => if kvs.all (fun kv => decide (kv.1.length ≤ 1000)) = true then some (kvs.map fun kv => keysDt kv.1) else none
    | some (.ditL kvs) => if kvs.all (fun kv => decide (kv.1.length ≤ 1000)) = true then some (kvs.map fun kv => keysDt kv.1) else none
    | _ => none
  | _ => none
section
variable {Γ : Wd} {ρ : List Addr} {F H : Hp} {s : Sto}
theorem G.adoptAll : ∀ {bs : List Addr} {F : Hp}, G Γ ρ F s H → (∀ b ∈ bs, ∃ xs, H b = some (.tup xs)) → ∃ F', LE ρ F H ρ F' H ∧ G Γ ρ F' s H ∧ ∀ b ∈ bs, ∀ xs, H b = some (.tup xs) → F' b = some (.tup xs)
  | [], F, g, _ => ⟨F, LE.refl, g, fun b hb => nomatch hb⟩
  | b :: bs, F, g, h => by
    obtain ⟨xs, hb⟩ := h b List.mem_cons_self
    obtain ⟨F1, l1, g1, h1⟩ := g.adopt hb
    obtain ⟨F2, l2, g2, h2⟩ := G.adoptAll (bs := bs) g1 fun c hc => h c (List.mem_cons_of_mem _ hc)
    refine ⟨F2, l1.trans l2, g2, fun c hc ys hys => ?_⟩
    rcases List.mem_cons.mp hc with e | hc
    · subst e
      rw [hb] at hys
      cases hys
      exact l2.ld.sub _ _ h1
    · exact h2 c hc ys hys
theorem denK_keys {κ : Type} : ∀ {kvs : List (κ × Dt)} {vs : List (κ × V)}, DenK Γ ρ F kvs vs → kvs.map (·.1) = vs.map (·.1)
  | [], vs, h => by simp only [DenK] at h; subst h; rfl
  | (f, d) :: r, vs, h => by
    obtain ⟨w, r', e1, q, t⟩ := h
    subst e1
    rw [List.map_cons, List.map_cons, denK_keys t]
theorem dens_keysK : ∀ {ks : List Key}, (∀ k ∈ ks, kOk k = true) → Dens Γ ρ F (ks.map keyDt) (ks.map kV)
  | [], _ => by simp only [List.map_nil, Dens]
  | k :: ks, h => by
    simp only [List.map_cons, Dens]
    exact ⟨_, _, rfl, Den.ofKey (h k List.mem_cons_self), dens_keysK fun x hx => h x (List.mem_cons_of_mem _ hx)⟩
theorem dens_keysT {F' : Hp} {kvs : List (List Key × V)} {bs : List Addr} (hk : IsKeys H kvs bs) (hF : ∀ b ∈ bs, ∀ xs, H b = some (.tup xs) → F' b = some (.tup xs)) (h1 : ∀ kv ∈ kvs, kv.1.all kOk = true) (h2 : ∀ kv ∈ kvs, kv.1.length ≤ 1000) : Dens Γ ρ F' (kvs.map fun kv => keysDt kv.1) (bs.map V.ref) := by
  unfold IsKeys at hk
  induction hk with
  | nil => simp only [List.map_nil, Dens]
  | @cons p b ps bs hb t ih =>
    simp only [List.map_cons, Dens]
    refine ⟨_, _, rfl, ?_, ih (fun c hc => hF c (List.mem_cons_of_mem _ hc)) (fun kv hkv => h1 kv (List.mem_cons_of_mem _ hkv)) fun kv hkv => h2 kv (List.mem_cons_of_mem _ hkv)⟩
    simp only [keysDt, Den]
    refine ⟨?_, b, _, rfl, hF b List.mem_cons_self _ hb, Dens.ofKeys (h1 p List.mem_cons_self)⟩
    have := h2 p List.mem_cons_self
    rw [List.length_map, sizeLine_eq]
    omega
/-- the view's keys as data: of plain keys, or of tuples that may be adopted -/
theorem G.keysAt (g : G Γ ρ F s H) {d : Dt} {v : V} {l : List Dt} (r : Den Γ ρ F d v) (h : keysOf s d = some l) : ∃ a, v = .ref a ∧ IsD H a ∧ l.length ≤ sizeLine ∧
    ((∃ kvs, Rd H a (.dK kvs) ∧ Dens Γ ρ F l (kvs.map fun kv => kV kv.1)) ∨ ∃ kvs, Rd H a (.dT kvs) ∧ ∀ H1 bs, (∀ b xs, H1 b = some (.tup xs) → H b = some (.tup xs)) → IsKeys H1 kvs bs → (∀ b ∈ bs, ∃ xs, H1 b = some (.tup xs)) ∧ ∀ F', (∀ b ∈ bs, ∀ xs, H1 b = some (.tup xs) → F' b = some (.tup xs)) → Dens Γ ρ F' l (bs.map V.ref)) := by
  have memK : ∀ {kvs : List (List Key × V)} {bs : List Addr} {H1 : Hp}, IsKeys H1 kvs bs → ∀ b ∈ bs, ∃ xs, H1 b = some (.tup xs) := fun {kvs bs H1} hk => by
    unfold IsKeys at hk
    induction hk with
    | nil => exact fun b hb => nomatch hb
    | cons h t ih =>
      intro b hb
      rcases List.mem_cons.mp hb with e | hb
      · subst e; exact ⟨_, h⟩
      · exact ih b hb
  have goK : ∀ (i : Nat) (kvs : List (Key × Dt)) (a : Addr) (vs : List (Key × V)), (kvs.length ≤ sizeLine ∧ ∀ kv ∈ kvs, kOk kv.1 = true) → Rd H a (.dK vs) → DenK Γ ρ F kvs vs → some (kvs.map fun kv => keyDt kv.1) = some l → v = .ref a →
      ∃ a, v = .ref a ∧ IsD H a ∧ l.length ≤ sizeLine ∧ ((∃ kvs, Rd H a (.dK kvs) ∧ Dens Γ ρ F l (kvs.map fun kv => kV kv.1)) ∨ ∃ kvs, Rd H a (.dT kvs) ∧ ∀ H1 bs, (∀ b xs, H1 b = some (.tup xs) → H b = some (.tup xs)) → IsKeys H1 kvs bs → (∀ b ∈ bs, ∃ xs, H1 b = some (.tup xs)) ∧ ∀ F', (∀ b ∈ bs, ∀ xs, H1 b = some (.tup xs) → F' b = some (.tup xs)) → Dens Γ ρ F' l (bs.map V.ref)) := fun i kvs a vs ⟨z1, z2⟩ hx t e ea => by
    injection e with e
    subst e
    refine ⟨a, ea, .inl ⟨vs, hx⟩, by rw [List.length_map]; exact z1, .inl ⟨vs, hx, ?_⟩⟩
    have e1 : (kvs.map fun kv => keyDt kv.1) = (kvs.map (·.1)).map keyDt := by rw [List.map_map]; rfl
    have e2 : (vs.map fun kv => kV kv.1) = (vs.map (·.1)).map kV := by rw [List.map_map]; rfl
    rw [e1, e2, ← denK_keys t]
    refine dens_keysK fun k hk => ?_
    obtain ⟨kv, hkv, e⟩ := List.mem_map.mp hk
    rw [← e]
    exact z2 kv hkv
  have goT : ∀ (i : Nat) (kvs : List (List Key × Dt)) (a : Addr) (vs : List (List Key × V)), (kvs.length ≤ sizeLine ∧ ∀ kv ∈ kvs, kv.1.all kOk = true) → Rd H a (.dT vs) → DenK Γ ρ F kvs vs → (if kvs.all (fun kv => decide (kv.1.length ≤ 1000)) = true then some (kvs.map fun kv => keysDt kv.1) else none) = some l → v = .ref a →
      ∃ a, v = .ref a ∧ IsD H a ∧ l.length ≤ sizeLine ∧ ((∃ kvs, Rd H a (.dK kvs) ∧ Dens Γ ρ F l (kvs.map fun kv => kV kv.1)) ∨ ∃ kvs, Rd H a (.dT kvs) ∧ ∀ H1 bs, (∀ b xs, H1 b = some (.tup xs) → H b = some (.tup xs)) → IsKeys H1 kvs bs → (∀ b ∈ bs, ∃ xs, H1 b = some (.tup xs)) ∧ ∀ F', (∀ b ∈ bs, ∀ xs, H1 b = some (.tup xs) → F' b = some (.tup xs)) → Dens Γ ρ F' l (bs.map V.ref)) := fun i kvs a vs ⟨z1, z2⟩ hx t e ea => by
    split at e
    · rename_i hl
      injection e with e
      subst e
      refine ⟨a, ea, .inr ⟨vs, hx⟩, by rw [List.length_map]; exact z1, .inr ⟨vs, hx, fun H1 bs hH hk => ⟨memK hk, fun F' hF => ?_⟩⟩⟩
      have e1 : (kvs.map fun kv => keysDt kv.1) = vs.map fun kv => keysDt kv.1 := by
        have := congrArg (List.map keysDt) (denK_keys t)
        rw [List.map_map, List.map_map] at this
        exact this
      have memv : ∀ kv ∈ vs, ∃ kv' ∈ kvs, kv'.1 = kv.1 := fun kv hkv => by
        have : kv.1 ∈ kvs.map (·.1) := by rw [denK_keys t]; exact List.mem_map.mpr ⟨kv, hkv, rfl⟩
        obtain ⟨kv', h1, h2⟩ := List.mem_map.mp this
        exact ⟨kv', h1, h2⟩
      rw [e1]
      exact dens_keysT hk hF (fun kv hkv => by obtain ⟨kv', h1, h2⟩ := memv kv hkv; rw [← h2]; exact z2 kv' h1) (fun kv hkv => by obtain ⟨kv', h1, h2⟩ := memv kv hkv; rw [← h2]; simpa using List.all_eq_true.mp hl kv' h1)
    · cases e
  cases d with
  | obj i =>
    simp only [Den] at r
    obtain ⟨a, ea, q⟩ := r
    simp only [keysOf] at h
    split at h
    · rename_i kvs hs
      obtain ⟨z, vs, hx, t⟩ := g.at_ i a _ q hs
      exact goK i kvs a vs z (.inl hx) t h ea
    · rename_i kvs hs
      obtain ⟨z, od, vs, hx, t⟩ := g.at_ i a _ q hs
      exact goK i kvs a vs z (.inr ⟨od, hx.1⟩) t h ea
    · rename_i kvs hs
      obtain ⟨z, vs, hx, t⟩ := g.at_ i a _ q hs
      exact goT i kvs a vs z (.inl hx) t h ea
    · rename_i kvs hs
      obtain ⟨z, od, vs, hx, t⟩ := g.at_ i a _ q hs
      exact goT i kvs a vs z (.inr ⟨od, hx.1⟩) t h ea
    · cases h
  | _ => simp [keysOf] at h
end
def dListK (nw : List Dt → Sto → Out Dt) (d : Dt) (s : Sto) : Out Dt := match keysOf s d with
  | some l => nw l s
  | none => .bad
def dSortK (nw : List Dt → Sto → Out Dt) (d : Dt) (s : Sto) : Out Dt := match keysOf s d with
  | some l => if sortOk l = true then nw (sortK keyL l) s else .bad
  | none => .bad
theorem upd_tup {H : Hp} {p v d : Addr} (hp : H p = none) {b : Addr} {xs : List V} (h : upd H p (KvO v d) b = some (.tup xs)) : H b = some (.tup xs) := by
  by_cases e : b = p
  · subst e; rw [upd_same] at h; cases h
  · rw [upd_ne e] at h; exact h
theorem rd_upd {H : Hp} {p a : Addr} {o u : HO} (hp : H p = none) (h : Rd H a u) : Rd (upd H p o) a u := by
  rcases h with h | ⟨od, h⟩
  · exact .inl (upd_keep hp h)
  · exact .inr ⟨od, upd_keep hp h⟩
theorem es_listK {nw : List Dt → Sto → Out Dt} (n : IsNw nw) (hc : X.calm = true) (hg : Gl X "list") (hm : X.mg "list" = none) (hv : bootBuiltins "list" = some (.type "list")) (ha : ES J X W e fe) (hn : ("list" : Str) ≠ "__name__" := by decide) (hdb : (("list" : Str) == ("__debug__" : Str)) = false := by decide)
    (he : starEach [.Call (.Attribute e "keys" apos) [] [] cpos] X.env = (false, eval (.Call (.Attribute e "keys" apos) [] [] cpos) X.env) :: starEach [] X.env := by rfl) (hbase : attributeBase e "keys" X.env (eval e X.env) = eval e X.env := by rfl) (hline : (apos.endLine == cpos.line) = true := by rfl) :
    ES J X W (.Call (.Name "list" p) [.Call (.Attribute e "keys" apos) [] [] cpos] [] pos) (eUn (dListK nw) fe) :=
  PE.imp (pe_callTy (cr_listV hc) hg hm hv (pa_cons (pe_keysV ha hbase hline) pa_nil he) hn hdb he rfl) fun σ H Q ⟨env, ρ, F, s, g, l, k⟩ => ⟨env, ρ, F, s, g, l, Po.bind k fun x s1 ρ1 F1 H1 v e1 l1 g1 r1 k1 => by
    unfold dListK at k1
    split at k1
    · rename_i ls hk
      obtain ⟨a, ea, hd, hz, h⟩ := g1.keysAt r1 hk
      refine ⟨a, ea, hd, fun p hp => ⟨p, a, rfl, upd_same, ?_⟩⟩
      have g2 := g1.skip (KvO p a) hp
      have l2 : LE ρ1 F1 H1 ρ1 F1 (upd H1 p (KvO p a)) := LE.skip hp
      rcases h with ⟨kvs, hr, t⟩ | ⟨kvs, hr, t⟩
      · exact .inl ⟨kvs, rd_upd hp hr, fun q hq => new_lst n g2 t hz hq (k1.mono l2 (fun _ _ z => z) fun _ _ z => z)⟩
      · refine .inr ⟨kvs, rd_upd hp hr, fun q bs hq hb => ?_⟩
        obtain ⟨h1, h2⟩ := t _ bs (fun b xs z => upd_tup hp z) hb
        obtain ⟨F3, l3, g3, h3⟩ := g2.adoptAll h1
        exact new_lst n g3 (h2 F3 h3) hz hq (k1.mono (l2.trans l3) (fun _ _ z => z) fun _ _ z => z)
    · exact False.elim k1⟩
theorem es_sortK {nw : List Dt → Sto → Out Dt} (n : IsNw nw) (hc : X.calm = true) (hg : Gl X "sorted") (hm : X.mg "sorted" = none) (hv : bootBuiltins "sorted" = some (.builtin "sorted")) (ha : ES J X W e fe) (hn : ("sorted" : Str) ≠ "__name__" := by decide) (hdb : (("sorted" : Str) == ("__debug__" : Str)) = false := by decide)
    (he : starEach [.Call (.Attribute e "keys" apos) [] [] cpos] X.env = (false, eval (.Call (.Attribute e "keys" apos) [] [] cpos) X.env) :: starEach [] X.env := by rfl) (hbase : attributeBase e "keys" X.env (eval e X.env) = eval e X.env := by rfl) (hline : (apos.endLine == cpos.line) = true := by rfl) :
    ES J X W (.Call (.Name "sorted" p) [.Call (.Attribute e "keys" apos) [] [] cpos] [] pos) (eUn (dSortK nw) fe) :=
  PE.imp (pe_callB (cr_sortedV hc) hg hm hv (pa_cons (pe_keysV ha hbase hline) pa_nil he) hn hdb he rfl) fun σ H Q ⟨env, ρ, F, s, g, l, k⟩ => ⟨env, ρ, F, s, g, l, Po.bind k fun x s1 ρ1 F1 H1 v e1 l1 g1 r1 k1 => by
    unfold dSortK at k1
    split at k1
    · rename_i ls hk
      split at k1
      · rename_i hok
        obtain ⟨a, ea, hd, hz, h⟩ := g1.keysAt r1 hk
        refine ⟨a, ea, hd, fun p hp => ⟨p, a, rfl, upd_same, ?_⟩⟩
        have g2 := g1.skip (KvO p a) hp
        have l2 : LE ρ1 F1 H1 ρ1 F1 (upd H1 p (KvO p a)) := LE.skip hp
        rcases h with ⟨kvs, hr, t⟩ | ⟨kvs, hr, t⟩
        · obtain ⟨md, h1, h2⟩ := sortQ_of (Q := Q) (E := fun c H' => W c none σ H') n g2 t hz hok (k1.mono l2 (fun _ _ z => z) fun _ _ z => z)
          exact .inl ⟨kvs, md, _, rd_upd hp hr, h1, h2⟩
        · refine .inr ⟨kvs, rd_upd hp hr, fun bs hb => ?_⟩
          obtain ⟨h1, h2⟩ := t _ bs (fun b xs z => upd_tup hp z) hb
          obtain ⟨F3, l3, g3, h3⟩ := g2.adoptAll h1
          obtain ⟨md, h4, h5⟩ := sortQ_of (Q := Q) (E := fun c H' => W c none σ H') n g3 (h2 F3 h3) hz hok (k1.mono (l2.trans l3) (fun _ _ z => z) fun _ _ z => z)
          exact ⟨md, _, h4, h5⟩
      · exact False.elim k1
    · exact False.elim k1⟩
end
end Pd
/-! The meanings, run by simp. -/
namespace Pd
open PySem L2
section
variable {α β : Type} {env : En} {s : Sto}
@[simp] theorem run_ok {a : α} {s' : Sto} {k : α → Sto → Out β} : (match (Out.ok a s' : Out α) with | .ok a s' => k a s' | .exc c s' => .exc c s' | .bad => .bad) = k a s' := rfl
@[simp] theorem ev_var {i : Nat} : eVar i env s = (match env[i]? with | some (some d) => .ok d s | _ => .bad) := rfl
@[simp] theorem ev_c {d : Dt} : eC d env s = .ok d s := rfl
@[simp] theorem ev_op {op : Dt → Dt → Sto → Out Dt} {f g : Ex} : eOp op f g env s = bnd (f env) (fun x => bnd (g env) fun y => op x y) s := rfl
@[simp] theorem ev_un {op : Dt → Sto → Out Dt} {f : Ex} : eUn op f env s = bnd (f env) op s := rfl
@[simp] theorem bnd_def {m : Sto → Out α} {k : α → Sto → Out β} : bnd m k s = (match m s with | .ok a s' => k a s' | .exc c s' => .exc c s' | .bad => .bad) := rfl
@[simp] theorem sBnd_def {m : Sto → Out α} {k : α → Sto → Res} : sBnd m env k s = (match m s with | .ok a s' => k a s' | .exc c s' => .exc c env s' | .bad => .bad) := rfl
@[simp] theorem iOp_int {g : Int → Int → Dt} {ok : Int → Int → Bool} {i j : Int} : iOp g ok (.int i) (.int j) s = if ok i j = true then .ok (g i j) s else .bad := rfl
@[simp] theorem ev_seq {f g : Sx} : sSeq f g env s = (match f env s with | .fl (.nx e) s' => g e s' | r => r) := rfl
@[simp] theorem ev_if {t : Tx} {f g : Sx} : sIf t f g env s = sBnd (t env) env (fun c s => if c = true then f env s else g env s) s := rfl
@[simp] theorem ev_ret {f : Ex} : sRet f env s = sBnd (f env) env (fun d s => .fl (.rt d) s) s := rfl
@[simp] theorem ev_next : sNext env s = .fl (.nx env) s := rfl
@[simp] theorem ev_expr {f : Ex} : sExpr f env s = sBnd (f env) env (fun _ s => .fl (.nx env) s) s := rfl
@[simp] theorem ev_asg {f : Ex} {tg : Tg} : sAsg f tg env s = sBnd (f env) env (fun d s => match tg d env s with | some e => .fl (.nx e) s | none => .bad) s := rfl
@[simp] theorem ev_gN {i : Nat} {d : Dt} : gN i d env s = some (env.set i (some d)) := rfl
@[simp] theorem ev_gT {is : List Nat} {l : List Dt} : gT is (.tup l) env s = setAll is l env := rfl
@[simp] theorem setAll_nil : setAll [] [] env = some env := rfl
@[simp] theorem setAll_cons {i : Nat} {is : List Nat} {d : Dt} {ds : List Dt} : setAll (i :: is) (d :: ds) env = setAll is ds (env.set i (some d)) := rfl
@[simp] theorem ev_tru {f : Ex} : tTru f env s = bnd (f env) (fun d s => ofB s (truD s d)) s := rfl
@[simp] theorem ev_bl {f : Ex} : tBl f env s = bnd (f env) (fun d s => match d with | .bl b => .ok b s | _ => .bad) s := rfl
@[simp] theorem ev_and {f g : Tx} : tAnd f g env s = bnd (f env) (fun c s => if c = true then g env s else .ok false s) s := rfl
@[simp] theorem ev_or {f g : Tx} : tOr f g env s = bnd (f env) (fun c s => if c = true then .ok true s else g env s) s := rfl
@[simp] theorem ev_not {f : Tx} : tNot f env s = bnd (f env) (fun c s => .ok (!c) s) s := rfl
@[simp] theorem ev_yes : Pd.tYes env s = .ok true s := rfl
@[simp] theorem ev_andE {f g : Ex} : eAnd f g env s = bnd (f env) (fun d s => match truD s d with | some true => g env s | some false => .ok d s | none => .bad) s := rfl
@[simp] theorem ev_orE {f g : Ex} : eOr f g env s = bnd (f env) (fun d s => match truD s d with | some true => .ok d s | some false => g env s | none => .bad) s := rfl
@[simp] theorem ev_notE {f : Ex} : eNot f env s = bnd (f env) (fun d s => ofO s ((truD s d).map fun b => .bl (!b))) s := rfl
@[simp] theorem ev_ifE {t : Tx} {f g : Ex} : eIf t f g env s = bnd (t env) (fun c s => if c = true then f env s else g env s) s := rfl
@[simp] theorem ev_chain {op op' : Dt → Dt → Sto → Out Dt} {f g h : Ex} : eChain op op' f g h env s = bnd (f env) (fun x => bnd (g env) fun y => bnd (op x y) fun z s => match z with | .bl true => bnd (h env) (fun w => op' y w) s | .bl false => .ok (.bl false) s | _ => .bad) s := rfl
@[simp] theorem ofB_some {b : Bool} : ofB s (some b) = .ok b s := rfl
@[simp] theorem ofO_some {d : Dt} : ofO s (some d) = .ok d s := rfl
@[simp] theorem ofO_none : ofO s none = .bad := rfl
@[simp] theorem truD_non : truD s .non = some false := rfl
@[simp] theorem truD_bl {b : Bool} : truD s (.bl b) = some b := rfl
@[simp] theorem truD_int {i : Int} : truD s (.int i) = some (i != 0) := rfl
@[simp] theorem truD_str {x : Str} : truD s (.str x) = some ((x.length : Int) != 0) := rfl
@[simp] theorem truD_tup {l : List Dt} : truD s (.tup l) = some (!l.isEmpty) := rfl
@[simp] theorem truD_lst {l : List Dt} : truD s (.lst l) = some (!l.isEmpty) := rfl
@[simp] theorem truD_lsk {l : List Dt} : truD s (.lsk l) = some (!l.isEmpty) := rfl
theorem truD_obj {i : Nat} {l : List Dt} (h : s[i]? = some (.lst l)) : truD s (.obj i) = some (!l.isEmpty) := by simp only [truD, h]
theorem truD_dic {i : Nat} {l : List (Key × Dt)} (h : s[i]? = some (.dic l)) : truD s (.obj i) = some (!l.isEmpty) := by simp only [truD, h]
@[simp] theorem evs_nil : evs [] env s = .ok [] s := rfl
@[simp] theorem evs_cons {f : Ex} {fs : List Ex} : evs (f :: fs) env s = bnd (f env) (fun d => bnd (evs fs env) fun ds s => .ok (d :: ds) s) s := rfl
@[simp] theorem ev_tup {fs : List Ex} : eTup fs env s = bnd (evs fs env) (fun ds s => .ok (.tup ds) s) s := rfl
@[simp] theorem ev_lst {nw : List Dt → Sto → Out Dt} {fs : List Ex} : eLst nw fs env s = bnd (evs fs env) nw s := rfl
@[simp] theorem ev_nwF {ds : List Dt} : nwF ds s = .ok (.lst ds) s := rfl
@[simp] theorem ev_nwM {ds : List Dt} : nwM ds s = .ok (.obj s.length) (s ++ [.lst ds]) := rfl
@[simp] theorem ev_call {m : Fn} {fs : List Ex} : eCall m fs env s = bnd (evs fs env) m s := rfl
@[simp] theorem ev_meth {c : Nat} {m : Fn} {fo : Ex} {fs : List Ex} : eMeth c m fo fs env s = bnd (fo env) (fun x s => match insD s c x with | some _ => bnd (evs fs env) (fun ds => m (x :: ds)) s | none => .bad) s := rfl
@[simp] theorem ev_make {c : Nat} {m : Fn} {fs : List Ex} : eMake c m fs env s = bnd (evs fs env) (fun ds s => bnd (m (.obj s.length :: ds)) (fun _ s' => .ok (.obj s.length) s') (s ++ [.ins c []])) s := rfl
@[simp] theorem ev_fld {c i : Nat} {fo : Ex} : eFld c i fo env s = bnd (fo env) (fun d s => ofO s ((insD s c d).bind fun p => p.2[i]?)) s := rfl
theorem insD_obj {c j : Nat} {ds : List Dt} (h : s[j]? = some (.ins c ds)) : insD s c (.obj j) = some (j, ds) := by simp only [insD, h, if_true]
@[simp] theorem ev_setF {c i : Nat} {fo fv : Ex} : sSetF c i fo fv env s = sBnd (fv env) env (fun y => sBnd (fo env) env fun d s => match setFD s c i d y with | some s' => .fl (.nx env) s' | none => .bad) s := rfl
theorem setFD_obj {c i j : Nat} {ds : List Dt} {y : Dt} (h : s[j]? = some (.ins c ds)) (hi : i ≤ ds.length) : setFD s c i (.obj j) y = some (s.set j (.ins c (putI i y ds))) := by simp only [setFD, insD_obj h, Option.bind_some, if_pos hi]
@[simp] theorem ev_bm1 {ty : Sto → Dt → Bool} {op : Dt → Dt → Sto → Out Dt} {fo fe : Ex} : eBm1 ty op fo fe env s = bnd (fo env) (fun x s => if ty s x = true then bnd (fe env) (fun y => op x y) s else .bad) s := rfl
theorem isLst_obj {i : Nat} {l : List Dt} (h : s[i]? = some (.lst l)) : isLst s (.obj i) = true := by simp [isLst, asL, h]
theorem lstAt_obj {i : Nat} {l : List Dt} (h : s[i]? = some (.lst l)) : lstAt s (.obj i) = some (i, l) := by simp only [lstAt, h]
theorem dApp_obj {i : Nat} {l : List Dt} {y : Dt} (h : s[i]? = some (.lst l)) (hz : l.length < sizeLine) : dApp (.obj i) y s = .ok .non (s.set i (.lst (l ++ [y]))) := by simp only [dApp, lstAt_obj h, if_pos hz]
@[simp] theorem asQ_tup {l : List Dt} : asQ s (.tup l) = some l := rfl
@[simp] theorem asQ_lst {l : List Dt} : asQ s (.lst l) = some l := rfl
@[simp] theorem asQ_lsk {l : List Dt} : asQ s (.lsk l) = some l := rfl
@[simp] theorem asL_lst {l : List Dt} : asL s (.lst l) = some l := rfl
@[simp] theorem asL_lsk {l : List Dt} : asL s (.lsk l) = some l := rfl
theorem asQ_obj {i : Nat} {l : List Dt} (h : s[i]? = some (.lst l)) : asQ s (.obj i) = some l := by simp only [asQ, asL, h]
theorem asL_obj {i : Nat} {l : List Dt} (h : s[i]? = some (.lst l)) : asL s (.obj i) = some l := by simp only [asL, h]
@[simp] theorem dLen_tup {l : List Dt} : dLen (.tup l) s = .ok (.int l.length) s := rfl
@[simp] theorem dLen_lst {l : List Dt} : dLen (.lst l) s = .ok (.int l.length) s := rfl
@[simp] theorem dLen_lsk {l : List Dt} : dLen (.lsk l) s = .ok (.int l.length) s := rfl
@[simp] theorem dLen_str {l : Str} : dLen (.str l) s = .ok (.int l.length) s := rfl
theorem dLen_obj {i : Nat} {l : List Dt} (h : s[i]? = some (.lst l)) : dLen (.obj i) s = .ok (.int l.length) s := by simp only [dLen, lenD, h]; rfl
theorem dLen_dic {i : Nat} {l : List (Key × Dt)} (h : s[i]? = some (.dic l)) : dLen (.obj i) s = .ok (.int l.length) s := by simp only [dLen, lenD, h]; rfl
@[simp] theorem dIx_tup {l : List Dt} {i : Int} : dIx (.tup l) (.int i) s = ofO s (atI l i) := rfl
@[simp] theorem dIx_lst {l : List Dt} {i : Int} : dIx (.lst l) (.int i) s = ofO s (atI l i) := rfl
@[simp] theorem dIx_lsk {l : List Dt} {i : Int} : dIx (.lsk l) (.int i) s = ofO s (atI l i) := rfl
@[simp] theorem dIx_str {z : Str} {i : Int} : dIx (.str z) (.int i) s = ofO s ((atI z.cps.toList i).map fun c => .str ⟨#[c]⟩) := rfl
theorem dIx_obj {j : Nat} {l : List Dt} {i : Int} (h : s[j]? = some (.lst l)) : dIx (.obj j) (.int i) s = ofO s (atI l i) := by simp only [dIx, asQ_obj h, Option.bind_some]
@[simp] theorem dAdd_int {nw : List Dt → Sto → Out Dt} {i j : Int} : dAdd nw (.int i) (.int j) s = .ok (.int (i + j)) s := rfl
@[simp] theorem dNeg_int {i : Int} : dNeg (.int i) s = .ok (.int (-i)) s := rfl
@[simp] theorem isN_def {d : Dt} : dIsN d s = .ok (.bl (isNon d)) s := rfl
@[simp] theorem notN_def {d : Dt} : dNotN d s = .ok (.bl (!isNon d)) s := rfl
@[simp] theorem isNon_non : isNon .non = true := rfl
@[simp] theorem isNon_int {i : Int} : isNon (.int i) = false := rfl
@[simp] theorem isNon_bl {i : Bool} : isNon (.bl i) = false := rfl
@[simp] theorem isNon_str {i : Str} : isNon (.str i) = false := rfl
@[simp] theorem isNon_tup {i : List Dt} : isNon (.tup i) = false := rfl
@[simp] theorem isNon_lst {i : List Dt} : isNon (.lst i) = false := rfl
@[simp] theorem isNon_obj {i : Nat} : isNon (.obj i) = false := rfl
@[simp] theorem isNon_exc {i : Nat} : isNon (.exc i) = false := rfl
/-! equality -/
@[simp] theorem dEq_int {i j : Int} : dEq (.int i) (.int j) s = .ok (.bl (i == j)) s := rfl
@[simp] theorem dNe_int {i j : Int} : dNe (.int i) (.int j) s = .ok (.bl (!(i == j))) s := rfl
@[simp] theorem dEq_str {i j : Str} : dEq (.str i) (.str j) s = .ok (.bl (i == j)) s := rfl
@[simp] theorem dNe_str {i j : Str} : dNe (.str i) (.str j) s = .ok (.bl (!(i == j))) s := rfl
@[simp] theorem dEq_bl {i j : Bool} : dEq (.bl i) (.bl j) s = .ok (.bl (i == j)) s := rfl
end
theorem rep_zero : List.replicate 0 (none : Option Dt) = [] := rfl
theorem rep_succ {n : Nat} : List.replicate (n + 1) (none : Option Dt) = none :: List.replicate n none := rfl
/-- places of a written list -/
theorem atI_ofNat {α : Type} (l : List α) (n : Nat) : atI l (n : Int) = l[n]? := by
  unfold atI ixN
  rw [if_pos (Int.natCast_nonneg n)]
  by_cases h : n < l.length
  · rw [if_pos (by exact_mod_cast h)]; simp
  · rw [if_neg (by exact_mod_cast h)]
    simp
    omega
@[simp] theorem atI_zero {α : Type} (l : List α) : atI l 0 = l[0]? := atI_ofNat l 0
@[simp] theorem atI_one {α : Type} (l : List α) : atI l 1 = l[1]? := atI_ofNat l 1
@[simp] theorem atI_2 {α : Type} (l : List α) : atI l 2 = l[2]? := atI_ofNat l 2
@[simp] theorem atI_3 {α : Type} (l : List α) : atI l 3 = l[3]? := atI_ofNat l 3
@[simp] theorem atI_4 {α : Type} (l : List α) : atI l 4 = l[4]? := atI_ofNat l 4
@[simp] theorem atI_5 {α : Type} (l : List α) : atI l 5 = l[5]? := atI_ofNat l 5
@[simp] theorem atI_6 {α : Type} (l : List α) : atI l 6 = l[6]? := atI_ofNat l 6
@[simp] theorem atI_7 {α : Type} (l : List α) : atI l 7 = l[7]? := atI_ofNat l 7
@[simp] theorem atI_8 {α : Type} (l : List α) : atI l 8 = l[8]? := atI_ofNat l 8
@[simp] theorem atI_9 {α : Type} (l : List α) : atI l 9 = l[9]? := atI_ofNat l 9
@[simp] theorem atI_10 {α : Type} (l : List α) : atI l 10 = l[10]? := atI_ofNat l 10
@[simp] theorem atI_11 {α : Type} (l : List α) : atI l 11 = l[11]? := atI_ofNat l 11
@[simp] theorem atI_12 {α : Type} (l : List α) : atI l 12 = l[12]? := atI_ofNat l 12
theorem atI_m1 {α : Type} (l : List α) : atI l (-1) = l.getLast? := by
  rcases List.eq_nil_or_concat l with e | ⟨r, x, e⟩
  · subst e; rfl
  · subst e
    rw [List.concat_eq_append, atI_last, List.getLast?_append]
    rfl
theorem dAdd_tup {nw : List Dt → Sto → Out Dt} {l m : List Dt} {s : Sto} (h : l.length + m.length ≤ 1000) : dAdd nw (.tup l) (.tup m) s = .ok (.tup (l ++ m)) s := by
  simp only [dAdd]
  rw [if_pos (by rw [sizeLine_eq]; omega)]
theorem dIsi_tup {l : List Dt} {s : Sto} : dIsi "tuple" (.tup l) s = .ok (.bl true) s := rfl
end Pd
namespace Pd
open PySem L2
/-- a comprehension that changes nothing -/
theorem lc_pure {tg : Tg} {ft : Tx} {fe : Ex} {ok : Sto → Prop} {env : En} {s : Sto} {p : Dt → Bool} {g : Dt → Dt} (hok : ok s) : ∀ {l : List Dt}, (∀ d ∈ l, ∃ env1, tg d env s = some env1 ∧ ft env1 s = .ok (p d) s ∧ (p d = true → fe env1 s = .ok (g d) s)) → lcGo tg ft fe ok l env s = .ok ((l.filter p).map g) s
  | [], _ => by simp only [lcGo, if_pos hok, List.filter_nil, List.map_nil]
  | d :: r, h => by
    obtain ⟨env1, h1, h2, h3⟩ := h d List.mem_cons_self
    have ih := lc_pure (l := r) hok fun d hd => h d (List.mem_cons_of_mem _ hd)
    simp only [lcGo, if_pos hok, h1, bndN, h2]
    cases e : p d with
    | true =>
      rw [if_pos rfl, List.filter_cons_of_pos e, List.map_cons]
      simp only [h3 e, ih]
    | false =>
      rw [if_neg Bool.false_ne_true, List.filter_cons_of_neg (by simp [e])]
      exact ih
/-- a loop by what holds between its turns -/
theorem for_inv {tg : Tg} {body : Sx} {ok : Sto → Prop} (I : List Dt → En → Sto → Prop) (all : List Dt) : ∀ (l pre : List Dt), all = pre ++ l → ∀ (env : En) (s : Sto), I pre env s →
    (∀ pre d post env s, all = pre ++ d :: post → I pre env s → ok s ∧ ∃ env1, tg d env s = some env1 ∧ ∃ e s', (body env1 s = .fl (.nx e) s' ∨ body env1 s = .fl (.ct e) s') ∧ I (pre ++ [d]) e s') → (∀ env s, I all env s → ok s) →
    ∃ e s', forGo tg body ok l env s = .fl (.nx e) s' ∧ I all e s'
  | [], pre, ha, env, s, hi, hs, hd => by
    rw [List.append_nil] at ha
    subst ha
    exact ⟨env, s, by simp only [forGo, if_pos (hd env s hi)], hi⟩
  | d :: r, pre, ha, env, s, hi, hs, hd => by
    obtain ⟨hok, env1, h1, e, s', h2, h3⟩ := hs pre d r env s ha hi
    obtain ⟨e2, s2, h4, h5⟩ := for_inv I all r (pre ++ [d]) (by rw [ha, List.append_assoc]; rfl) e s' h3 hs hd
    refine ⟨e2, s2, ?_, h5⟩
    rcases h2 with h2 | h2
    · simp only [forGo, if_pos hok, h1, h2]; exact h4
    · simp only [forGo, if_pos hok, h1, h2]; exact h4
/-- .. over the numbers below n -/
theorem for_range_inv {tg : Tg} {body : Sx} (I : Nat → En → Sto → Prop) (n : Nat) {env : En} {s : Sto} (h0 : I 0 env s)
    (hs : ∀ k env s, k < n → I k env s → ∃ env1, tg (.int k) env s = some env1 ∧ ∃ e s', (body env1 s = .fl (.nx e) s' ∨ body env1 s = .fl (.ct e) s') ∧ I (k + 1) e s') :
    ∃ e s', forGo tg body (fun _ => True) ((List.range n).map fun (k : Nat) => .int k) env s = .fl (.nx e) s' ∧ I n e s' := by
  obtain ⟨e, s', h1, h2⟩ := for_inv (tg := tg) (body := body) (ok := fun _ => True) (fun pre env s => ∃ k, k ≤ n ∧ pre = (List.range k).map (fun (k : Nat) => Dt.int k) ∧ I k env s) ((List.range n).map fun (k : Nat) => .int k) _ [] rfl env s ⟨0, Nat.zero_le _, rfl, h0⟩
    (fun pre d post env s ha ⟨k, hk, ep, hi⟩ => by
      have hlen : pre.length = k := by rw [ep, List.length_map, List.length_range]
      have hkn : k < n := by
        have := congrArg List.length ha
        simp at this
        omega
      have ed : d = .int k := by
        have z : ((List.range n).map fun (k : Nat) => Dt.int k)[k]? = some d := by rw [ha, ← hlen]; simp
        rw [List.getElem?_map, List.getElem?_range hkn] at z
        simpa using z.symm
      subst ed
      obtain ⟨env1, h1, e, s', h2, h3⟩ := hs k env s hkn hi
      exact ⟨trivial, env1, h1, e, s', h2, k + 1, hkn, by rw [ep, List.range_succ, List.map_append]; rfl, h3⟩) (fun _ _ _ => trivial)
  obtain ⟨k, hk, ep, hi⟩ := h2
  have : k = n := by
    have := congrArg List.length ep
    simp at this
    omega
  subst this
  exact ⟨e, s', h1, hi⟩
@[simp] theorem ev_for {fi : Is} {tg : Tg} {body : Sx} {env : En} {s : Sto} : sFor fi tg body env s = sBnd (fi env) env (fun p => forGo tg body p.2 p.1 env) s := rfl
@[simp] theorem ev_lc {nw : List Dt → Sto → Out Dt} {vs : List Nat} {fi : Is} {tg : Tg} {ft : Tx} {fe : Ex} {env : En} {s : Sto} : eLc nw vs fi tg ft fe env s = bnd (fi env) (fun p => bndN (lcGo tg ft fe p.2 p.1 (wipeD env vs)) nw) s := rfl
@[simp] theorem wipeD_nil {env : En} : wipeD env [] = env := rfl
@[simp] theorem wipeD_cons {env : En} {v : Nat} {vs : List Nat} : wipeD env (v :: vs) = (wipeD env vs).set v none := rfl
theorem bndN_ok {α β : Type} {m : Sto → Out α} {k : α → Sto → Out β} {s s' : Sto} {a : α} (h : m s = .ok a s') : bndN m k s = k a s' := by unfold bndN; rw [h]
@[simp] theorem ev_iSeq {f : Ex} {env : En} {s : Sto} : iSeq f env s = bnd (β := List Dt × (Sto → Prop)) (f env) (fun d s => match d with
  | .str x => .ok (signs x, fun _ => True) s
  | d => match asQ s d with
    | some l => .ok (l, fun s' => asQ s' d = some l) s
    | none => .bad) s := rfl
@[simp] theorem ev_iRange {f : Ex} {env : En} {s : Sto} : iRange f env s = bnd (β := List Dt × (Sto → Prop)) (f env) (fun d s => match d with
  | .int n => if n ≤ 16777216 ∧ -(2 ^ 62) ≤ n then .ok ((List.range n.toNat).map fun (k : Nat) => .int k, fun _ => True) s else .bad
  | _ => .bad) s := rfl
theorem ev_sl {nw : List Dt → Sto → Out Dt} {fa : Ex} {lo hi : Option Ex} {env : En} {s : Sto} : eSl nw fa lo hi env s = bnd (fa env) (fun x => bnd (evp lo env) fun l => bnd (evp hi env) fun u => dSl nw x l u) s := rfl
theorem evp_none {env : En} {s : Sto} : evp none env s = .ok none s := rfl
theorem evp_some {f : Ex} {env : En} {s : Sto} : evp (some f) env s = bnd (f env) (fun d s => match d with | .int i => .ok (some i) s | _ => .bad) s := rfl
theorem dSl_tup {nw : List Dt → Sto → Out Dt} {l : List Dt} {lo hi : Option Int} {s : Sto} : dSl nw (.tup l) lo hi s = .ok (.tup (cutD l lo hi)) s := rfl
theorem dSl_lst {nw : List Dt → Sto → Out Dt} {l : List Dt} {lo hi : Option Int} {s : Sto} : dSl nw (.lst l) lo hi s = nw (cutD l lo hi) s := rfl
theorem dSl_obj {nw : List Dt → Sto → Out Dt} {i : Nat} {l : List Dt} {lo hi : Option Int} {s : Sto} (h : s[i]? = some (.lst l)) : dSl nw (.obj i) lo hi s = nw (cutD l lo hi) s := by simp only [dSl, asL_obj h]
/-! ### equal data -/
mutual
theorem eqv_refl : ∀ p : PyData, p.canLay0 = true → PyData.eqv p p = true
  | .none, _ => rfl
  | .bool b, _ => by simp [PyData.eqv]
  | .int i, _ => by simp [PyData.eqv]
  | .str x, _ => by simp [PyData.eqv]
  | .list xs, h => by simp only [PyData.eqv]; exact eqvAll_refl xs (by simpa only [PyData.canLay0] using h)
  | .tuple xs, h => by simp only [PyData.eqv]; exact eqvAll_refl xs (by simpa only [PyData.canLay0] using h)
  | .dict xs, h => by simp [PyData.canLay0] at h
theorem eqvAll_refl : ∀ p : List PyData, PyData.canLayAll0 p = true → PyData.eqvAll p p = true
  | [], _ => rfl
  | x :: xs, h => by
    simp only [PyData.canLayAll0, Bool.and_eq_true] at h
    simp only [PyData.eqvAll, eqv_refl x h.1, eqvAll_refl xs h.2, Bool.and_self]
end
mutual
def noDict : PyData → Bool
  | .list xs => noDicts xs
  | .tuple xs => noDicts xs
  | .dict _ => false
  | _ => true
def noDicts : List PyData → Bool
  | [] => true
  | x :: xs => noDict x && noDicts xs
end
mutual
theorem eqv_self : ∀ p : PyData, noDict p = true → PyData.eqv p p = true
  | .none, _ => rfl
  | .bool b, _ => by simp [PyData.eqv]
  | .int i, _ => by simp [PyData.eqv]
  | .str x, _ => by simp [PyData.eqv]
  | .list xs, h => by simp only [PyData.eqv]; exact eqvAll_self xs (by simpa only [noDict] using h)
  | .tuple xs, h => by simp only [PyData.eqv]; exact eqvAll_self xs (by simpa only [noDict] using h)
  | .dict xs, h => by simp [noDict] at h
theorem eqvAll_self : ∀ p : List PyData, noDicts p = true → PyData.eqvAll p p = true
  | [], _ => rfl
  | x :: xs, h => by
    simp only [noDicts, Bool.and_eq_true] at h
    simp only [PyData.eqvAll, eqv_self x h.1, eqvAll_self xs h.2, Bool.and_self]
end
mutual
theorem toPy_noDict : ∀ (d : Dt) (p : PyData), toPy d = some p → noDict p = true
  | .non, p, h => by simp only [toPy, Option.some.injEq] at h; subst h; rfl
  | .bl _, p, h => by simp only [toPy, Option.some.injEq] at h; subst h; rfl
  | .int _, p, h => by simp only [toPy, Option.some.injEq] at h; subst h; rfl
  | .str _, p, h => by simp only [toPy, Option.some.injEq] at h; subst h; rfl
  | .tup l, p, h => by
    simp only [toPy, Option.map_eq_some_iff] at h
    obtain ⟨q, e1, e2⟩ := h
    subst e2
    simp only [noDict]
    exact toPys_noDict l q e1
  | .lst l, p, h => by
    simp only [toPy, Option.map_eq_some_iff] at h
    obtain ⟨q, e1, e2⟩ := h
    subst e2
    simp only [noDict]
    exact toPys_noDict l q e1
  | .lsk l, p, h => by
    simp only [toPy, Option.map_eq_some_iff] at h
    obtain ⟨q, e1, e2⟩ := h
    subst e2
    simp only [noDict]
    exact toPys_noDict l q e1
  | .obj _, p, h => by simp [toPy] at h
  | .exc _, p, h => by simp [toPy] at h
theorem toPys_noDict : ∀ (d : List Dt) (p : List PyData), toPys d = some p → noDicts p = true
  | [], p, h => by simp only [toPys, Option.some.injEq] at h; subst h; rfl
  | d :: ds, p, h => by
    simp only [toPys] at h
    split at h
    · rename_i a b ha hb
      cases h
      simp only [noDicts, toPy_noDict d a ha, toPys_noDict ds b hb, Bool.and_self]
    · cases h
end
mutual
def dpt : Dt → Option Nat
  | .non => some 0
  | .bl _ => some 0
  | .int _ => some 0
  | .str _ => some 0
  | .tup l => (dpts l).map (· + 1)
  | .lst l => (dpts l).map (· + 1)
  | .lsk l => (dpts l).map (· + 1)
  | .obj _ => none
  | .exc _ => none
def dpts : List Dt → Option Nat
  | [] => some 0
  | d :: ds => match dpt d, dpts ds with
    | some a, some b => some (max a b)
    | _, _ => none
end
mutual
theorem dpt_py : ∀ (d : Dt) (n : Nat), dpt d = some n → ∃ p, toPy d = some p ∧ p.depth = n
  | .non, n, h => by simp only [dpt, Option.some.injEq] at h; exact ⟨_, rfl, by simp only [PyData.depth]; exact h⟩
  | .bl _, n, h => by simp only [dpt, Option.some.injEq] at h; exact ⟨_, rfl, by simp only [PyData.depth]; exact h⟩
  | .int _, n, h => by simp only [dpt, Option.some.injEq] at h; exact ⟨_, rfl, by simp only [PyData.depth]; exact h⟩
  | .str _, n, h => by simp only [dpt, Option.some.injEq] at h; exact ⟨_, rfl, by simp only [PyData.depth]; exact h⟩
  | .tup l, n, h => by
    simp only [dpt, Option.map_eq_some_iff] at h
    obtain ⟨m, e1, e2⟩ := h
    obtain ⟨q, e3, e4⟩ := dpts_py l m e1
    exact ⟨.tuple q, by simp only [toPy, e3, Option.map_some], by simp only [PyData.depth]; omega⟩
  | .lst l, n, h => by
    simp only [dpt, Option.map_eq_some_iff] at h
    obtain ⟨m, e1, e2⟩ := h
    obtain ⟨q, e3, e4⟩ := dpts_py l m e1
    exact ⟨.list q, by simp only [toPy, e3, Option.map_some], by simp only [PyData.depth]; omega⟩
  | .lsk l, n, h => by
    simp only [dpt, Option.map_eq_some_iff] at h
    obtain ⟨m, e1, e2⟩ := h
    obtain ⟨q, e3, e4⟩ := dpts_py l m e1
    exact ⟨.list q, by simp only [toPy, e3, Option.map_some], by simp only [PyData.depth]; omega⟩
  | .obj _, n, h => by simp [dpt] at h
  | .exc _, n, h => by simp [dpt] at h
theorem dpts_py : ∀ (d : List Dt) (n : Nat), dpts d = some n → ∃ p, toPys d = some p ∧ PyData.depthAll p = n
  | [], n, h => by simp only [dpts, Option.some.injEq] at h; exact ⟨[], rfl, by simp only [PyData.depthAll]; exact h⟩
  | d :: ds, n, h => by
    simp only [dpts] at h
    split at h
    · rename_i a b ha hb
      cases h
      obtain ⟨p, e1, e2⟩ := dpt_py d a ha
      obtain ⟨q, e3, e4⟩ := dpts_py ds b hb
      exact ⟨p :: q, by simp only [toPys, e1, e3], by simp only [PyData.depthAll, e2, e4]⟩
    · cases h
end
theorem dEq_self {d : Dt} {n : Nat} {s : Sto} (h : dpt d = some n) (hn : n ≤ 64) : dEq d d s = .ok (.bl true) s ∧ dNe d d s = .ok (.bl false) s := by
  obtain ⟨p, e1, e2⟩ := dpt_py d n h
  have e3 : toPyS s d = some p := by
    cases d with
    | obj i => simp [dpt] at h
    | _ => exact e1
  have e4 : dEqB s d d = some true := by
    simp only [dEqB, e3, e2, if_pos (And.intro hn hn), eqv_self p (toPy_noDict d p e1)]
  constructor
  · simp only [dEq, e4, Option.map_some, ofO_some]
  · simp only [dNe, e4, Option.map_some, ofO_some, Bool.not_true]
end Pd
namespace Pd
open PySem L2
/-! ### comprehensions over written-out lists -/
theorem lc_map {α : Type} {tg : Tg} {ft : Tx} {fe : Ex} {ok : Sto → Prop} {env : En} {s : Sto} {f g : α → Dt} (hok : ok s) : ∀ {l : List α}, (∀ a ∈ l, ∃ env1, tg (f a) env s = some env1 ∧ ft env1 s = .ok true s ∧ fe env1 s = .ok (g a) s) → lcGo tg ft fe ok (l.map f) env s = .ok (l.map g) s
  | [], _ => by simp only [List.map_nil, lcGo, if_pos hok]
  | d :: r, h => by
    obtain ⟨env1, h1, h2, h3⟩ := h d List.mem_cons_self
    have ih := lc_map (l := r) hok fun d hd => h d (List.mem_cons_of_mem _ hd)
    simp only [List.map_cons, lcGo, if_pos hok, h1, bndN, h2, h3, ih, if_true]
theorem lc_filter {α : Type} {tg : Tg} {ft : Tx} {fe : Ex} {ok : Sto → Prop} {env : En} {s : Sto} {f g : α → Dt} {p : α → Bool} (hok : ok s) : ∀ {l : List α}, (∀ a ∈ l, ∃ env1, tg (f a) env s = some env1 ∧ ft env1 s = .ok (p a) s ∧ (p a = true → fe env1 s = .ok (g a) s)) → lcGo tg ft fe ok (l.map f) env s = .ok ((l.filter p).map g) s
  | [], _ => by simp only [List.map_nil, lcGo, if_pos hok, List.filter_nil]
  | d :: r, h => by
    obtain ⟨env1, h1, h2, h3⟩ := h d List.mem_cons_self
    have ih := lc_filter (l := r) hok fun d hd => h d (List.mem_cons_of_mem _ hd)
    cases e : p d with
    | true => simp only [List.map_cons, lcGo, if_pos hok, h1, bndN, h2, h3 e, ih, e, if_true, List.filter_cons]
    | false => simp only [List.map_cons, lcGo, if_pos hok, h1, bndN, h2, ih, e, Bool.false_eq_true, if_false, List.filter_cons]
/-- .. where the store changes: what holds between the turns -/
theorem lc_inv {tg : Tg} {fe : Ex} {ok : Sto → Prop} {env : En} (I : Nat → Sto → Prop) (P : Dt → Prop) (N : Nat) (hok : ∀ n s, I n s → ok s) : ∀ {l : List Dt} {n : Nat} {s : Sto}, n + l.length ≤ N → I n s →
    (∀ n s, ∀ d ∈ l, n < N → I n s → ∃ env1, tg d env s = some env1 ∧ ∃ y s', fe env1 s = .ok y s' ∧ P y ∧ I (n + 1) s') → ∃ ys s', lcGo tg Pd.tYes fe ok l env s = .ok ys s' ∧ I (n + l.length) s' ∧ ys.length = l.length ∧ ∀ y ∈ ys, P y
  | [], n, s, _, hi, _ => ⟨[], s, by simp only [lcGo, if_pos (hok n s hi)], hi, rfl, fun _ h => nomatch h⟩
  | d :: r, n, s, hN, hi, h => by
    rw [List.length_cons] at hN
    obtain ⟨env1, h1, y, s1, h2, hp, h3⟩ := h n s d List.mem_cons_self (by omega) hi
    obtain ⟨ys, s2, h4, h5, h6, h7⟩ := lc_inv (tg := tg) (fe := fe) (ok := ok) (env := env) I P N hok (l := r) (n := n + 1) (by omega) h3 fun n s d hd => h n s d (List.mem_cons_of_mem _ hd)
    refine ⟨y :: ys, s2, ?_, ?_, by rw [List.length_cons, List.length_cons, h6], fun z hz => ?_⟩
    · simp only [lcGo, if_pos (hok n s hi), h1, bndN, ev_yes, if_true, h2, h4]
    · rw [List.length_cons]; rw [show n + (r.length + 1) = n + 1 + r.length by omega]; exact h5
    · rcases List.mem_cons.mp hz with e | hz
      · rw [e]; exact hp
      · exact h7 z hz
/-! ### texts -/
theorem mkS_beq (a b : List Nat) : (mkS a == mkS b) = (a == b) := by
  rw [Bool.eq_iff_iff]
  simp only [beq_iff_eq]
  exact ⟨fun h => by have := congrArg (fun x : Str => x.cps.toList) h; simpa using this, fun h => by rw [h]⟩
theorem mkS_eq (x : Str) : x = mkS x.cps.toList := (TL.mk_tl x).symm
theorem mkS_len (l : List Nat) : (mkS l).length = l.length := len_codes _
theorem dLen_mk {l : List Nat} {s : Sto} : dLen (.str (mkS l)) s = .ok (.int l.length) s := by rw [dLen_str, mkS_len]
theorem dEq_mk {a b : List Nat} {s : Sto} : dEq (.str (mkS a)) (.str (mkS b)) s = .ok (.bl (a == b)) s := by rw [dEq_str, mkS_beq]
theorem dNe_mk {a b : List Nat} {s : Sto} : dNe (.str (mkS a)) (.str (mkS b)) s = .ok (.bl (!(a == b))) s := by rw [dNe_str, mkS_beq]
theorem isStr_str {x : Str} {s : Sto} : isStr s (.str x) = true := rfl
theorem isLst_lst {l : List Dt} {s : Sto} : isLst s (.lst l) = true := rfl
theorem dSplit_mk {nw : List Dt → Sto → Out Dt} {a : List Nat} {s : Sto} : dSplit nw (.str (mkS a)) (.str (mkS [47])) s = nw ((splC 47 a).map fun l => .str (mkS l)) s := rfl
theorem signs_mk (l : List Nat) : signs (mkS l) = l.map fun c => .str (mkS [c]) := rfl
theorem dOrd_mk {c : Nat} {s : Sto} : dOrd (.str (mkS [c])) s = .ok (.int c) s := rfl
theorem dIn_sign {c : Nat} {z : List Nat} {s : Sto} : dIn (.str (mkS [c])) (.str (mkS z)) s = .ok (.bl (decide (c ∈ z))) s := rfl
theorem dNotIn_sign {c : Nat} {z : List Nat} {s : Sto} : dNotIn (.str (mkS [c])) (.str (mkS z)) s = .ok (.bl (!decide (c ∈ z))) s := rfl
theorem dIn_two {p a b : List Nat} {s : Sto} : dIn (.str (mkS p)) (.tup [.str (mkS a), .str (mkS b)]) s = .ok (.bl (a == p || b == p)) s := by
  have e : inB s (.str (mkS p)) (.tup [.str (mkS a), .str (mkS b)]) = some ((mkS a == mkS p) || ((mkS b == mkS p) || false)) := rfl
  simp only [dIn, e, Option.map_some, ofO_some, mkS_beq, Bool.or_false]
theorem dNotIn_two {p a b : List Nat} {s : Sto} : dNotIn (.str (mkS p)) (.tup [.str (mkS a), .str (mkS b)]) s = .ok (.bl (!(a == p || b == p))) s := by
  have e : inB s (.str (mkS p)) (.tup [.str (mkS a), .str (mkS b)]) = some ((mkS a == mkS p) || ((mkS b == mkS p) || false)) := rfl
  simp only [dNotIn, e, Option.map_some, ofO_some, mkS_beq, Bool.or_false]
theorem dNotIn_three {n a b c : Int} {s : Sto} : dNotIn (.int n) (.tup [.int a, .int b, .int c]) s = .ok (.bl (!(a == n || (b == n || c == n)))) s := by
  have e : inB s (.int n) (.tup [.int a, .int b, .int c]) = some ((a == n) || ((b == n) || ((c == n) || false))) := rfl
  simp only [dNotIn, e, Option.map_some, ofO_some, Bool.or_false]
theorem asB_map {α : Type} (q : α → Bool) : ∀ l : List α, asB (l.map fun a => .bl (q a)) = some (l.map q)
  | [] => rfl
  | a :: r => by simp only [List.map_cons, asB, asB_map q r, Option.map_some]
theorem dAll_map {α : Type} {q : α → Bool} {l : List α} {s : Sto} : dAll (.lst (l.map fun a => .bl (q a))) s = .ok (.bl (l.all q)) s := by
  simp only [dAll, asL_lst, Option.bind_some, asB_map, Option.map_some, ofO_some, List.all_map]
  rfl
theorem dAny_map {α : Type} {q : α → Bool} {l : List α} {s : Sto} : dAny (.lst (l.map fun a => .bl (q a))) s = .ok (.bl (l.any q)) s := by
  simp only [dAny, asL_lst, Option.bind_some, asB_map, Option.map_some, ofO_some, List.any_map]
  rfl
/-! slices -/
theorem cut_tail {α : Type} (x : α) (xs : List α) : cutD (x :: xs) (some 1) none = xs := by
  have h1 : HT.sIx (x :: xs).length 0 (some 1) = 1 := by
    have := HT.sIx_nat (x :: xs).length 0 1
    rw [show ((1 : Nat) : Int) = 1 from rfl] at this
    rw [this, List.length_cons]; omega
  unfold cutD
  rw [h1, HT.sIx_none, List.drop_one, List.tail_cons, List.length_cons, Nat.add_sub_cancel, List.take_length]
theorem cut_take {α : Type} (xs : List α) (k : Nat) : cutD xs none (some (k : Int)) = xs.take k := by
  unfold cutD
  rw [HT.sIx_none, HT.sIx_nat, List.drop_zero, Nat.sub_zero]
  by_cases h : k ≤ xs.length
  · rw [Nat.min_eq_left h]
  · rw [Nat.min_eq_right (by omega), List.take_length, List.take_of_length_le (by omega)]
theorem cut_one {α : Type} (xs : List α) : cutD xs none (some 1) = xs.take 1 := cut_take xs 1
theorem cut_init {α : Type} (xs : List α) : cutD xs none (some (-1)) = xs.dropLast := by
  unfold cutD
  have h1 : HT.sIx xs.length xs.length (some (-1)) = xs.length - 1 := by
    show (if (-1 : Int) < 0 then (-1 + (xs.length : Int)).toNat else min (-1 : Int).toNat xs.length) = _
    rw [if_pos (by decide)]
    omega
  rw [HT.sIx_none, h1, List.drop_zero, Nat.sub_zero, List.dropLast_eq_take]
theorem cutS_one (l : List Nat) : cutS (mkS l) none (some 1) = mkS (l.take 1) := by
  have e : cutS (mkS l) none (some 1) = mkS (cutD l none (some 1)) := by
    unfold cutS cutD
    rw [mkS_len]
  rw [e, cut_one]
theorem dSl_str {nw : List Dt → Sto → Out Dt} {z : Str} {lo hi : Option Int} {s : Sto} : dSl nw (.str z) lo hi s = .ok (.str (cutS z lo hi)) s := rfl
/-- a list of levels -/
abbrev lvs (ps : List (List Nat)) : List Dt := ps.map fun l => .str (mkS l)
theorem dEq_lst1 {p q : List Nat} {s : Sto} : dEq (.lst [.str (mkS p)]) (.lst [.str (mkS q)]) s = .ok (.bl (p == q)) s := by
  have e : dEq (.lst [.str (mkS p)]) (.lst [.str (mkS q)]) s = .ok (.bl ((mkS p == mkS q) && true)) s := by
    have : dEqB s (.lst [.str (mkS p)]) (.lst [.str (mkS q)]) = some ((mkS p == mkS q) && true) := by
      simp [dEqB, toPyS, toPy, toPys, PyData.depth, PyData.depthAll, PyData.eqv, PyData.eqvAll]
    simp only [dEq, this, Option.map_some, ofO_some]
  rw [e, mkS_beq, Bool.and_true]
theorem dEq_nil1 {q : List Nat} {s : Sto} : dEq (.lst []) (.lst [.str (mkS q)]) s = .ok (.bl false) s := by
  have : dEqB s (.lst []) (.lst [.str (mkS q)]) = some false := by
    simp [dEqB, toPyS, toPy, toPys, PyData.depth, PyData.depthAll, PyData.eqv, PyData.eqvAll]
  simp only [dEq, this, Option.map_some, ofO_some]
theorem str_obj {a b : List Nat} : dAdd nwF (.str (mkS a)) (.str (mkS b)) = fun s => if a.length + b.length ≤ 1000000 then .ok (.str (mkS (a ++ b))) s else .bad := by
  funext s
  have e : mkS a ++ mkS b = mkS (a ++ b) := TL.ext_tl (TL.tl_append _ _)
  simp only [dAdd, mkS_len, e]
theorem asS_lvs (ps : List (List Nat)) : asS (lvs ps) = some (ps.map mkS) := by
  have := asS_map (ps.map mkS)
  rw [List.map_map] at this
  exact this
theorem sum_mkS (ps : List (List Nat)) : ((ps.map mkS).map (·.length)).sum = (ps.map (·.length)).sum := by
  rw [List.map_map]
  congr 1
theorem dJoin_lst {ps : List (List Nat)} {s : Sto} {d : Dt} (hd : asQ s d = some (lvs ps)) (h : (ps.map (·.length)).sum + ps.length ≤ 1000000) : dJoin (.str (mkS [47])) d s = .ok (.str (mkS (TL.joinL [47] ps))) s := by
  simp only [dJoin, hd, Option.bind_some, asS_lvs]
  rw [sum_mkS, List.length_map, if_pos (by rw [mkS_len]; simpa using h), List.map_map]
  have : ((fun x : Str => x.cps.toList) ∘ mkS) = id := by funext l; rfl
  rw [this, List.map_id]
theorem splC_last_ne (l : List Nat) : ∃ p, (splC 47 l).getLast? = some p := by
  cases e : (splC 47 l).getLast? with
  | none => exact absurd (List.getLast?_eq_none_iff.mp e) (splC_ne 47 l)
  | some p => exact ⟨p, rfl⟩
@[simp] theorem ev_tryH {ih ie : Nat} {tb : List Nat} {fb : Sx} {env : En} {s : Sto} : sTryH ih ie tb fb env s = (match fb env s with | .exc c env' s' => if c ∈ tb ∧ ie < env'.length then .fl (.nx ((env'.set ih (some (.exc c))).set ie none)) s' else .bad | r => r) := rfl
@[simp] theorem ev_setI {fo fi fv : Ex} {env : En} {s : Sto} : sSetI fo fi fv env s = sBnd (fv env) env (fun v => sBnd (fo env) env fun x => sBnd (fi env) env fun y s => match putAt x y v s with | some s' => .fl (.nx env) s' | none => .bad) s := rfl
@[simp] theorem ev_raise {c : Nat} {env : En} {s : Sto} : sRaise c env s = .exc c env s := rfl
@[simp] theorem dIsx_exc {tb : List (Nat × Bool)} {c : Nat} {s : Sto} : dIsx tb (.exc c) s = ofO s ((tb.lookup c).map .bl) := rfl
end Pd
/-! What stands in the store, part by part (parts stand apart). -/
namespace Pd
open PySem L2
/-- an assertion about some places of the store -/
structure SP where
  P : List Nat → Sto → Prop
  loc : ∀ {fp : List Nat} {s s' : Sto}, (∀ i ∈ fp, s'[i]? = s[i]?) → P fp s → P fp s'
  bd : ∀ {fp : List Nat} {s : Sto}, P fp s → ∀ i ∈ fp, i < s.length
def At (i : Nat) (m : Mo) : SP where
  P := fun fp s => fp = [i] ∧ s[i]? = some m
  loc := fun h ⟨e, q⟩ => ⟨e, by rw [h _ (by rw [e]; exact List.mem_singleton_self _)]; exact q⟩
  bd := fun ⟨e, q⟩ j hj => by
    rw [e, List.mem_singleton] at hj
    rw [hj]
    exact (List.getElem?_eq_some_iff.mp q).1
def Exi {α : Type} (f : α → SP) : SP where
  P := fun fp s => ∃ a, (f a).P fp s
  loc := fun h ⟨a, q⟩ => ⟨a, (f a).loc h q⟩
  bd := fun ⟨a, q⟩ => (f a).bd q
def Pu (p : Prop) : SP where
  P := fun fp _ => fp = [] ∧ p
  loc := fun _ q => q
  bd := fun ⟨e, _⟩ i hi => by rw [e] at hi; cases hi
def Emp : SP := ⟨fun fp _ => fp = [], fun _ h => h, fun e i hi => by rw [e] at hi; cases hi⟩
def Star (A B : SP) : SP where
  P := fun fp s => ∃ f1 f2, fp = f1 ++ f2 ∧ A.P f1 s ∧ B.P f2 s
  loc := fun h ⟨f1, f2, e, q1, q2⟩ => ⟨f1, f2, e, A.loc (fun i hi => h i (by rw [e]; exact List.mem_append_left _ hi)) q1, B.loc (fun i hi => h i (by rw [e]; exact List.mem_append_right _ hi)) q2⟩
  bd := fun ⟨f1, f2, e, q1, q2⟩ i hi => by
    rw [e] at hi
    rcases List.mem_append.mp hi with hi | hi
    · exact A.bd q1 i hi
    · exact B.bd q2 i hi
def Sts : List SP → SP
  | [] => Emp
  | A :: L => Star A (Sts L)
def Own (L : List SP) (s : Sto) : Prop := ∃ fp : List Nat, fp.Nodup ∧ (Sts L).P fp s
section
variable {A B : SP} {L L' R : List SP} {s : Sto}
theorem own_nil : Own [] s := ⟨[], List.nodup_nil, rfl⟩
theorem Sts.perm (h : L.Perm L') : ∀ {fp : List Nat}, (Sts L).P fp s → ∃ fp', fp'.Perm fp ∧ (Sts L').P fp' s := by
  induction h with
  | nil => exact fun q => ⟨_, List.Perm.refl _, q⟩
  | cons x _ ih =>
    rintro fp ⟨f1, f2, e, q1, q2⟩
    obtain ⟨f2', p, q⟩ := ih q2
    exact ⟨f1 ++ f2', by rw [e]; exact List.Perm.append_left _ p, f1, f2', rfl, q1, q⟩
  | swap x y l =>
    rintro fp ⟨f1, f2, e, q1, f3, f4, e2, q2, q3⟩
    refine ⟨f3 ++ (f1 ++ f4), ?_, f3, f1 ++ f4, rfl, q2, f1, f4, rfl, q1, q3⟩
    rw [e, e2, ← List.append_assoc, ← List.append_assoc]
    exact List.Perm.append_right _ List.perm_append_comm
  | trans _ _ ih1 ih2 =>
    intro fp q
    obtain ⟨f1, p1, q1⟩ := ih1 q
    obtain ⟨f2, p2, q2⟩ := ih2 q1
    exact ⟨f2, p2.trans p1, q2⟩
theorem Own.perm (o : Own L s) (h : L.Perm L') : Own L' s := by
  obtain ⟨fp, nd, q⟩ := o
  obtain ⟨fp', p, q'⟩ := Sts.perm h q
  exact ⟨fp', p.nodup_iff.mpr nd, q'⟩
theorem perm_pull {α : Type} : ∀ (L : List α) (k : Nat) (h : k < L.length), L.Perm (L[k] :: L.eraseIdx k)
  | a :: L, 0, _ => List.Perm.refl _
  | a :: L, k + 1, h => ((perm_pull L k (by simpa using h)).cons a).trans (List.Perm.swap _ _ _)
/-- the part at a place comes to the front -/
theorem Own.pull (k : Nat) (o : Own L s) (h : k < L.length := by decide) : Own (L[k] :: L.eraseIdx k) s := o.perm (perm_pull L k h)
theorem perm_push {α : Type} (a : α) : ∀ (L : List α) (k : Nat), k ≤ L.length → (a :: L).Perm (L.insertIdx k a)
  | L, 0, _ => List.Perm.refl _
  | b :: L, k + 1, h => (List.Perm.swap _ _ _).trans ((perm_push a L k (by simpa using h)).cons b)
/-- the front goes to a place -/
theorem Own.push (k : Nat) (o : Own (A :: L) s) (h : k ≤ L.length := by decide) : Own (L.insertIdx k A) s := o.perm (perm_push A L k h)
theorem Own.drop (o : Own (A :: L) s) : Own L s := by
  obtain ⟨fp, nd, f1, f2, e, q1, q2⟩ := o
  rw [e] at nd
  exact ⟨f2, (List.nodup_append.mp nd).2.1, q2⟩
theorem Own.get {i : Nat} {m : Mo} (o : Own (At i m :: L) s) : s[i]? = some m := by
  obtain ⟨fp, nd, f1, f2, e, q1, q2⟩ := o
  exact q1.2
theorem Own.lt {i : Nat} {m : Mo} (o : Own (At i m :: L) s) : i < s.length := (List.getElem?_eq_some_iff.mp o.get).1
theorem Own.set {i : Nat} {m : Mo} (o : Own (At i m :: L) s) (m' : Mo) : Own (At i m' :: L) (s.set i m') := by
  have hl := o.lt
  obtain ⟨fp, nd, f1, f2, e, ⟨q1, q3⟩, q2⟩ := o
  refine ⟨fp, nd, f1, f2, e, ⟨q1, List.getElem?_set_self hl⟩, (Sts L).loc (fun j hj => ?_) q2⟩
  rw [e, q1] at nd
  refine List.getElem?_set_ne fun z => ?_
  subst z
  exact (List.nodup_append.mp nd).2.2 i (List.mem_singleton_self _) i hj rfl
theorem Own.app (o : Own L s) (m : List Mo) : Own L (s ++ m) := by
  obtain ⟨fp, nd, q⟩ := o
  exact ⟨fp, nd, (Sts L).loc (fun i hi => List.getElem?_append_left ((Sts L).bd q i hi)) q⟩
theorem Own.new (o : Own L s) (m : Mo) : Own (At s.length m :: L) (s ++ [m]) := by
  have o2 := o
  obtain ⟨fp, nd, q⟩ := o
  refine ⟨[s.length] ++ fp, ?_, [s.length], fp, rfl, ⟨rfl, by simp⟩, (Sts L).loc (fun i hi => List.getElem?_append_left ((Sts L).bd q i hi)) q⟩
  refine List.nodup_append.mpr ⟨by simp, nd, fun a ha b hb => ?_⟩
  rw [List.mem_singleton] at ha
  have := (Sts L).bd q b hb
  omega
theorem Own.ne {i j : Nat} {m n : Mo} (o : Own (At i m :: At j n :: L) s) : i ≠ j := by
  obtain ⟨fp, nd, f1, f2, e, ⟨q1, q3⟩, f3, f4, e2, ⟨q4, _⟩, _⟩ := o
  rw [e, e2, q1, q4] at nd
  intro z
  subst z
  simp at nd
theorem own_ex {α : Type} {f : α → SP} : Own (Exi f :: L) s ↔ ∃ a, Own (f a :: L) s :=
  ⟨fun ⟨fp, nd, f1, f2, e, ⟨a, q1⟩, q2⟩ => ⟨a, fp, nd, f1, f2, e, q1, q2⟩, fun ⟨a, fp, nd, f1, f2, e, q1, q2⟩ => ⟨fp, nd, f1, f2, e, ⟨a, q1⟩, q2⟩⟩
theorem own_pu {p : Prop} : Own (Pu p :: L) s ↔ p ∧ Own L s :=
  ⟨fun ⟨fp, nd, f1, f2, e, ⟨e1, q1⟩, q2⟩ => ⟨q1, fp, nd, by rw [e, e1]; exact q2⟩, fun ⟨q1, fp, nd, q2⟩ => ⟨fp, nd, [], fp, rfl, ⟨rfl, q1⟩, q2⟩⟩
theorem sts_app : ∀ {L R : List SP} {fp : List Nat}, (Sts (L ++ R)).P fp s ↔ ∃ f1 f2, fp = f1 ++ f2 ∧ (Sts L).P f1 s ∧ (Sts R).P f2 s
  | [], R, fp => ⟨fun h => ⟨[], fp, rfl, rfl, h⟩, fun ⟨f1, f2, e, e1, h⟩ => by
      have e1 : f1 = [] := e1
      rw [e, e1]
      exact h⟩
  | A :: L, R, fp => ⟨fun ⟨f1, f2, e, q1, q2⟩ => by
      obtain ⟨f3, f4, e2, q3, q4⟩ := sts_app.mp q2
      exact ⟨f1 ++ f3, f4, by rw [e, e2, List.append_assoc], ⟨f1, f3, rfl, q1, q3⟩, q4⟩, fun ⟨f1, f2, e, ⟨f3, f4, e2, q3, q4⟩, q2⟩ => ⟨f3, f4 ++ f2, by rw [e, e2, List.append_assoc], q3, sts_app.mpr ⟨f4, f2, rfl, q4, q2⟩⟩⟩
theorem own_sts : Own (Sts R :: L) s ↔ Own (R ++ L) s :=
  ⟨fun ⟨fp, nd, f1, f2, e, q1, q2⟩ => ⟨fp, nd, sts_app.mpr ⟨f1, f2, e, q1, q2⟩⟩, fun ⟨fp, nd, q⟩ => by
    obtain ⟨f1, f2, e, q1, q2⟩ := sts_app.mp q
    exact ⟨fp, nd, f1, f2, e, q1, q2⟩⟩
theorem range_getD : ∀ (L : List SP) (n : Nat), n ≤ L.length → (List.range n).map (fun k => L.getD k Emp) = L.take n
  | L, 0, _ => rfl
  | [], n + 1, h => by simp at h
  | A :: L, n + 1, h => by
    rw [List.range_succ_eq_map, List.map_cons, List.map_map, List.take_succ_cons]
    exact congrArg (A :: ·) (range_getD L n (by simpa using h))
/-- the first parts in another order -/
theorem Own.ix (ix : List Nat) (o : Own L s) (h : ix.Perm (List.range ix.length) := by decide) (hl : ix.length ≤ L.length := by simp) : Own (ix.map (fun k => L.getD k Emp) ++ L.drop ix.length) s := by
  refine o.perm ?_
  have e := range_getD L ix.length hl
  have p : (L.take ix.length).Perm (ix.map fun k => L.getD k Emp) := by
    rw [← e]
    exact (h.map _).symm
  have q := p.append_right (L.drop ix.length)
  rw [List.take_append_drop] at q
  exact q
theorem own2 {A B : SP} {L : List SP} {s : Sto} (o : Own (A :: B :: L) s) : Own (B :: A :: L) s := o.pull 1 (by simp)
theorem own3 {A B C : SP} {L : List SP} {s : Sto} (o : Own (A :: B :: C :: L) s) : Own (C :: A :: B :: L) s := o.pull 2 (by simp)
theorem own4 {A B C D : SP} {L : List SP} {s : Sto} (o : Own (A :: B :: C :: D :: L) s) : Own (D :: A :: B :: C :: L) s := o.pull 3 (by simp)
theorem own5 {A B C D E : SP} {L : List SP} {s : Sto} (o : Own (A :: B :: C :: D :: E :: L) s) : Own (E :: A :: B :: C :: D :: L) s := o.pull 4 (by simp)
theorem own6 {A B C D E F : SP} {L : List SP} {s : Sto} (o : Own (A :: B :: C :: D :: E :: F :: L) s) : Own (F :: A :: B :: C :: D :: E :: L) s := o.pull 5 (by simp)
/-- one assertion for another -/
theorem Own.imp {A' : SP} (o : Own (A :: L) s) (h : ∀ fp, A.P fp s → A'.P fp s) : Own (A' :: L) s := by
  obtain ⟨fp, nd, f1, f2, e, q1, q2⟩ := o
  exact ⟨fp, nd, f1, f2, e, h _ q1, q2⟩
end
end Pd
namespace Pd
open PySem L2
/-! ### more evaluation rules -/
/-- a while loop by a measure -/
theorem wh_meas {t : Tx} {body : Sx} (I : Nat → En → Sto → Prop) (P : En → Sto → Prop)
    (h : ∀ n env s, I n env s → (∃ s1, t env s = .ok false s1 ∧ P env s1) ∨ (∃ s1, t env s = .ok true s1 ∧ ∃ m e s', m < n ∧ (body env s1 = .fl (.nx e) s' ∨ body env s1 = .fl (.ct e) s') ∧ I m e s')) :
    ∀ (fuel n : Nat) (env : En) (s : Sto), n < fuel → I n env s → ∃ e s', whGo t body fuel env s = .fl (.nx e) s' ∧ P e s'
  | 0, n, env, s, hn, _ => by omega
  | fuel + 1, n, env, s, hn, hi => by
    rcases h n env s hi with ⟨s1, e1, hp⟩ | ⟨s1, e1, m, e, s', hm, hb, hi'⟩
    · exact ⟨env, s1, by simp [whGo, e1], hp⟩
    · obtain ⟨e2, s2, h1, h2⟩ := wh_meas I P h fuel m e s' (by omega) hi'
      refine ⟨e2, s2, ?_, h2⟩
      rcases hb with hb | hb
      · simp [whGo, e1, hb, h1]
      · simp [whGo, e1, hb, h1]
/-- a for loop over written-out items -/
theorem for_map0 {α : Type} {tg : Tg} {body : Sx} {ok : Sto → Prop} {f : α → Dt} (I : List α → En → Sto → Prop) (all : List α) : ∀ (l pre : List α) (env : En) (s : Sto), all = pre ++ l → I pre env s →
    (∀ pre a post env s, all = pre ++ a :: post → I pre env s → ∃ env1, tg (f a) env s = some env1 ∧ ∃ e s', (body env1 s = .fl (.nx e) s' ∨ body env1 s = .fl (.ct e) s') ∧ I (pre ++ [a]) e s') → (∀ pre env s, I pre env s → ok s) →
    ∃ e s', forGo tg body ok (l.map f) env s = .fl (.nx e) s' ∧ I all e s'
  | [], pre, env, s, ha, hi, hs, hd => ⟨env, s, by simp only [List.map_nil, forGo, if_pos (hd pre env s hi)], by rw [ha, List.append_nil]; exact hi⟩
  | a :: r, pre, env, s, ha, hi, hs, hd => by
    obtain ⟨env1, h1, e, s', h2, h3⟩ := hs pre a r env s ha hi
    obtain ⟨e2, s2, h4, h5⟩ := for_map0 I all r (pre ++ [a]) e s' (by rw [ha, List.append_assoc]; rfl) h3 hs hd
    refine ⟨e2, s2, ?_, h5⟩
    rcases h2 with h2 | h2
    · simp only [List.map_cons, forGo, if_pos (hd pre env s hi), h1, h2]; exact h4
    · simp only [List.map_cons, forGo, if_pos (hd pre env s hi), h1, h2]; exact h4
theorem for_map {α : Type} {tg : Tg} {body : Sx} {ok : Sto → Prop} {f : α → Dt} (I : List α → En → Sto → Prop) (l : List α) (env : En) (s : Sto) (h0 : I [] env s)
    (hs : ∀ pre a post env s, l = pre ++ a :: post → I pre env s → ∃ env1, tg (f a) env s = some env1 ∧ ∃ e s', (body env1 s = .fl (.nx e) s' ∨ body env1 s = .fl (.ct e) s') ∧ I (pre ++ [a]) e s') (hd : ∀ pre env s, I pre env s → ok s) :
    ∃ e s', forGo tg body ok (l.map f) env s = .fl (.nx e) s' ∧ I l e s' := for_map0 I l l [] env s rfl h0 hs hd
/-- turns of a for loop that leave the store as it is -/
theorem for_skip {α : Type} {tg : Tg} {body : Sx} {ok : Sto → Prop} {f : α → Dt} {s : Sto} (E : En → Prop) (hok : ok s) : ∀ (l : List α) (rest : List Dt) (env : En), E env → (∀ a ∈ l, ∀ env, E env → ∃ env1, tg (f a) env s = some env1 ∧ ∃ e, body env1 s = .fl (.nx e) s ∧ E e) →
    ∃ e, E e ∧ forGo tg body ok (l.map f ++ rest) env s = forGo tg body ok rest e s
  | [], rest, env, he, _ => ⟨env, he, rfl⟩
  | a :: l, rest, env, he, h => by
    obtain ⟨env1, h1, e, h2, h3⟩ := h a List.mem_cons_self env he
    obtain ⟨e2, h4, h5⟩ := for_skip E hok l rest e h3 fun a ha => h a (List.mem_cons_of_mem _ ha)
    refine ⟨e2, h4, ?_⟩
    rw [← h5]
    simp only [List.map_cons, List.cons_append, forGo, if_pos hok, h1, h2]
theorem putAt_at {s : Sto} {i v : Nat} {l : List Dt} {d : Dt} (h : s[i]? = some (.lst l)) (hv : v < l.length) : Pd.putAt (.obj i) (.int (v : Int)) d s = some (s.set i (.lst (l.set v d))) := by
  have e : ixN l.length (v : Int) = some v := by
    unfold ixN
    rw [if_pos (Int.natCast_nonneg v), if_pos (by omega)]
    simp
  simp only [Pd.putAt, lstAt_obj h, e, Option.map_some]
theorem cut_drop {α : Type} (xs : List α) (k : Nat) : cutD xs (some (k : Int)) none = xs.drop k := by
  unfold cutD
  rw [HT.sIx_none, HT.sIx_nat]
  by_cases h : k ≤ xs.length
  · rw [Nat.min_eq_left h, List.take_of_length_le (by rw [List.length_drop]; omega)]
  · rw [Nat.min_eq_right (by omega), List.drop_length, List.drop_of_length_le (by omega), List.take_nil]
theorem app_get {s : Sto} {m : List Mo} {i : Nat} {o : Mo} (h : s[i]? = some o) : (s ++ m)[i]? = some o := by
  rw [List.getElem?_append_left (List.getElem?_eq_some_iff.mp h).1]
  exact h
theorem truD_at {s : Sto} {i : Nat} {l : List Dt} (h : s[i]? = some (.lst l)) : truD s (.obj i) = some (!l.isEmpty) := truD_obj h
theorem dExt_obj {s : Sto} {i : Nat} {l m : List Dt} {y : Dt} (h : s[i]? = some (.lst l)) (hy : trkL s y = some m) (hz : l.length + m.length ≤ 1000000) : dExt (.obj i) y s = .ok .non (s.set i (.lst (l ++ m))) := by
  simp only [dExt, lstAt_obj h, hy]
  rw [if_pos (by rw [sizeLine_eq]; omega)]
theorem trkL_lst {s : Sto} {l : List Dt} : trkL s (.lst l) = some l := rfl
theorem trkL_obj {s : Sto} {i : Nat} {l : List Dt} (h : s[i]? = some (.lst l)) : trkL s (.obj i) = some l := by simp only [trkL, h]
theorem dPop0_obj {s : Sto} {i : Nat} {d : Dt} {l : List Dt} (h : s[i]? = some (.lst (d :: l))) : dPopAt (.obj i) (.int 0) s = .ok d (s.set i (.lst l)) := by
  have e : ixN (d :: l).length 0 = some 0 := by
    unfold ixN
    rw [if_pos (by decide), if_pos (by simp)]
    rfl
  simp only [dPopAt, lstAt_obj h, e, List.getElem?_cons_zero, List.eraseIdx_cons_zero]
theorem dApp_at {s : Sto} {i : Nat} {l : List Dt} {y : Dt} (h : s[i]? = some (.lst l)) (hz : l.length < 1000000) : dApp (.obj i) y s = .ok .non (s.set i (.lst (l ++ [y]))) := dApp_obj h (by rw [sizeLine_eq]; omega)
theorem dAdd_any {nw : List Dt → Sto → Out Dt} {x y : Dt} {l m : List Dt} {s : Sto} (hx : trkL s x = some l) (hy : trkL s y = some m) (h : l.length + m.length ≤ 1000000) : dAdd nw x y s = nw (l ++ m) s := by
  have hz : l.length + m.length ≤ sizeLine := by rw [sizeLine_eq]; omega
  cases x with
  | lst a =>
    have e : a = l := by simpa [trkL] using hx
    subst e
    simp only [dAdd, show trkL s (.lst a) = some a from rfl, hy, if_pos hz]
  | obj i =>
    simp only [dAdd, hx, hy, if_pos hz]
  | _ => simp [trkL] at hx
/-- texts as items of dicts -/
theorem valA_cons_eq {κ α : Type} [DecidableEq κ] {k : κ} {v : α} {r : List (κ × α)} : valA ((k, v) :: r) k = some v := by simp [valA]
theorem valA_cons_ne {κ α : Type} [DecidableEq κ] {k j : κ} {v : α} {r : List (κ × α)} (h : k ≠ j) : valA ((k, v) :: r) j = valA r j := by simp [valA, h]
theorem valA_nil {κ α : Type} [DecidableEq κ] {j : κ} : valA ([] : List (κ × α)) j = none := rfl
theorem Own.mem {L : List SP} {s : Sto} {i : Nat} {m : Mo} (o : Own L s) (h : At i m ∈ L) : s[i]? = some m := by
  obtain ⟨a, b, e⟩ := List.append_of_mem h
  rw [e] at o
  exact (o.perm List.perm_middle).get
/-! ### lists that a def tells, of the store or not -/
def OrS (A B : SP) : SP where
  P := fun fp s => A.P fp s ∨ B.P fp s
  loc := fun h q => q.elim (fun q => .inl (A.loc h q)) fun q => .inr (B.loc h q)
  bd := fun q => q.elim (fun q => A.bd q) fun q => B.bd q
theorem own_or {A B : SP} {L : List SP} {s : Sto} : Own (OrS A B :: L) s ↔ Own (A :: L) s ∨ Own (B :: L) s :=
  ⟨fun ⟨fp, nd, f1, f2, e, q1, q2⟩ => q1.elim (fun q => .inl ⟨fp, nd, f1, f2, e, q, q2⟩) fun q => .inr ⟨fp, nd, f1, f2, e, q, q2⟩,
   fun h => h.elim (fun ⟨fp, nd, f1, f2, e, q, q2⟩ => ⟨fp, nd, f1, f2, e, .inl q, q2⟩) fun ⟨fp, nd, f1, f2, e, q, q2⟩ => ⟨fp, nd, f1, f2, e, .inr q, q2⟩⟩
def LsA (r : Dt) (l : List Dt) : SP := OrS (Pu (r = .lst l)) (Exi fun p => Sts [Pu (r = .obj p), At p (.lst l)])
theorem own_ls {r : Dt} {l : List Dt} {L : List SP} {s : Sto} : Own (LsA r l :: L) s ↔ (r = .lst l ∧ Own L s) ∨ ∃ p, r = .obj p ∧ Own (At p (.lst l) :: L) s := by
  unfold LsA
  simp only [own_or, own_pu, own_ex, own_sts]
  constructor
  · rintro (h | ⟨p, h⟩)
    · exact .inl h
    · obtain ⟨e, h⟩ := own_pu.mp h
      exact .inr ⟨p, e, h⟩
  · rintro (h | ⟨p, e, h⟩)
    · exact .inl h
    · exact .inr ⟨p, own_pu.mpr ⟨e, h⟩⟩
theorem Own.trk {r : Dt} {l : List Dt} {L : List SP} {s : Sto} (o : Own (LsA r l :: L) s) : trkL s r = some l := by
  rcases own_ls.mp o with ⟨e, _⟩ | ⟨p, e, h⟩
  · rw [e]; rfl
  · rw [e]; exact trkL_obj h.get
theorem zeros_app (n : Nat) : List.replicate n (Dt.int 0) ++ [.int 0] = List.replicate (n + 1) (.int 0) := by rw [List.replicate_succ']
abbrev zs (n : Nat) : Mo := .lst (List.replicate n (.int 0))
/-- the town, at most so many draws -/
def Tw (t N : Nat) : SP := Exi fun n => Sts [Pu (n ≤ N), At t (zs n)]
theorem own_tw {t N : Nat} {R : List SP} {s : Sto} : Own (Tw t N :: R) s ↔ ∃ n, n ≤ N ∧ Own (At t (zs n) :: R) s := by
  unfold Tw
  simp only [own_ex, own_sts, List.cons_append, List.nil_append, own_pu]
theorem Own.more {t N M : Nat} {R : List SP} {s : Sto} (o : Own (Tw t N :: R) s) (h : N ≤ M) : Own (Tw t M :: R) s := by
  obtain ⟨n, hn, o⟩ := own_tw.mp o
  exact own_tw.mpr ⟨n, by omega, o⟩
/-! ### dicts with written keys -/
abbrev kS (x : String) : Key := Sum.inr (Str.ofString x)
theorem dget_of {s : Sto} {j : Nat} {kvs : List (Key × Dt)} {k : Str} {v : Dt} (h : s[j]? = some (.dic kvs)) (hv : valA kvs (Sum.inr k) = some v) : dDget (.obj j) (.str k) s = .ok v s := by
  simp only [dDget, dgetD, h, keyD, Option.map_some, hv]
theorem dput_of {s : Sto} {j : Nat} {kvs : List (Key × Dt)} {k : Str} {v : Dt} (h : s[j]? = some (.dic kvs)) (hl : kvs.length < 1000000) : dputD s (.obj j) (.str k) v = some (s.set j (.dic (putA kvs (Sum.inr k) v))) := by
  simp only [dputD, h, keyD, Option.bind_some]
  rw [if_pos (by rw [sizeLine_eq]; omega)]
@[simp] theorem ev_dput {fo fi fv : Ex} {env : En} {s : Sto} : sDput fo fi fv env s = sBnd (fv env) env (fun v => sBnd (fo env) env fun x => sBnd (fi env) env fun y s => match dputD s x y v with | some s' => .fl (.nx env) s' | none => .bad) s := rfl
theorem zip_fst {α β : Type} : ∀ {a : List α} {b : List β}, a.length = b.length → (a.zip b).map (·.1) = a
  | [], [], _ => rfl
  | x :: a, y :: b, h => by rw [List.zip_cons_cons, List.map_cons, zip_fst (by simpa using h)]
  | [], _ :: _, h => by simp at h
  | _ :: _, [], h => by simp at h
theorem zip_snd {α β : Type} : ∀ {a : List α} {b : List β}, a.length = b.length → (a.zip b).map (·.2) = b
  | [], [], _ => rfl
  | x :: a, y :: b, h => by rw [List.zip_cons_cons, List.map_cons, zip_snd (by simpa using h)]
  | [], _ :: _, h => by simp at h
  | _ :: _, [], h => by simp at h
/-! ### dicts walked -/
theorem set_self {s : Sto} {i : Nat} {m : Mo} (h : s[i]? = some m) : s.set i m = s := by
  apply List.ext_getElem?
  intro j
  by_cases e : i = j
  · subst e; rw [List.getElem?_set_self (List.getElem?_eq_some_iff.mp h).1, h]
  · rw [List.getElem?_set_ne e]
theorem lock_pure {fo f : Ex} {env : En} {s s1 : Sto} {i : Nat} {mo mo' : Mo} {d : Dt} (h1 : fo env s = .ok (.obj i) s1) (h2 : s[i]? = some mo) (h3 : lockM mo = some mo') (h4 : f env (s.set i mo') = .ok d (s.set i mo')) : eLock fo f env s = .ok d s := by
  have h5 : (s.set i mo')[i]? = some mo' := List.getElem?_set_self (List.getElem?_eq_some_iff.mp h2).1
  simp only [eLock, h1, h2, h3, h4, unlockO, if_pos h5, List.set_set, set_self h2]
theorem lock_run {fo f : Ex} {env : En} {s s1 s' : Sto} {i : Nat} {mo mo' : Mo} {d : Dt} (h1 : fo env s = .ok (.obj i) s1) (h2 : s[i]? = some mo) (h3 : lockM mo = some mo') (h4 : f env (s.set i mo') = .ok d s') (h5 : s'[i]? = some mo') : eLock fo f env s = .ok d (s'.set i mo) := by
  simp only [eLock, h1, h2, h3, h4, unlockO, if_pos h5]
theorem slock_run {fo : Ex} {f : Sx} {env : En} {s s1 s' : Sto} {i : Nat} {mo mo' : Mo} {fl : Fl} (h1 : fo env s = .ok (.obj i) s1) (h2 : s[i]? = some mo) (h3 : lockM mo = some mo') (h4 : f env (s.set i mo') = .fl fl s') (h5 : s'[i]? = some mo') : sLock fo f env s = .fl fl (s'.set i mo) := by
  simp only [sLock, h1, h2, h3, h4, unlockR, if_pos h5]
@[simp] theorem ev_keysL {f : Ex} {env : En} {s : Sto} : iKeysL f env s = bnd (β := List Dt × (Sto → Prop)) (f env) (fun d s => match d with
  | .obj i => match s[i]? with
    | some (.dicL kvs) => .ok (kvs.map fun kv => keyDt kv.1, fun s' => s'[i]? = some (.dicL kvs)) s
    | some (.ditL kvs) => if kvs.all (fun kv => decide (kv.1.length ≤ 1000)) = true then .ok (kvs.map fun kv => keysDt kv.1, fun s' => s'[i]? = some (.ditL kvs)) s else .bad
    | _ => .bad
  | _ => .bad) s := rfl
theorem ev_dnewK {env : En} {s : Sto} : eDnewK env s = .ok (.obj s.length) (s ++ [.dic []]) := rfl
theorem ev_dnewT {env : En} {s : Sto} : eDnewT env s = .ok (.obj s.length) (s ++ [.dit []]) := rfl
theorem ev_dpop1 {fo fe : Ex} {env : En} {s : Sto} : eDpop1 fo fe env s = bnd (fo env) (fun x s => if isDic s x = true then bnd (fe env) (fun y s => match dpopD s x y with | some (d, s') => .ok d s' | none => .bad) s else .bad) s := rfl
theorem isDic_dic {s : Sto} {i : Nat} {l : List (Key × Dt)} (h : s[i]? = some (.dic l)) : isDic s (.obj i) = true := by simp [isDic, h]
theorem dgetD_dic {s : Sto} {i : Nat} {l : List (Key × Dt)} {y : Dt} {k : Key} (h : s[i]? = some (.dic l)) (hk : keyD y = some k) : dgetD s (.obj i) y = some (valA l k) := by simp only [dgetD, h, hk, Option.map_some]
theorem keysOf_dic {s : Sto} {i : Nat} {l : List (Key × Dt)} (h : s[i]? = some (.dic l)) : keysOf s (.obj i) = some (l.map fun kv => keyDt kv.1) := by simp only [keysOf, h]
/-! ints sorted -/
theorem sortOk_ints : ∀ l : List Int, sortOk (l.map .int) = true
  | [] => rfl
  | i :: l => by
    simp only [List.map_cons, sortOk, mdD, List.all_cons, okD, Bool.true_and, List.all_map]
    simp [okD]
theorem dpts_all {l : List Dt} {n : Nat} (h : ∀ d ∈ l, dpt d = some n) : ∃ m, dpts l = some m ∧ m ≤ n := by
  induction l with
  | nil => exact ⟨0, rfl, Nat.zero_le _⟩
  | cons d l ih =>
    obtain ⟨m, h1, h2⟩ := ih fun x hx => h x (List.mem_cons_of_mem _ hx)
    refine ⟨max n m, ?_, by omega⟩
    simp only [dpts, h d List.mem_cons_self, h1]
theorem dNe_lst {l : List Dt} {n : Nat} {s : Sto} (h : ∀ d ∈ l, dpt d = some n) (hn : n ≤ 60) : dEq (.lst l) (.lst l) s = .ok (.bl true) s ∧ dNe (.lst l) (.lst l) s = .ok (.bl false) s := by
  obtain ⟨m, h1, h2⟩ := dpts_all h
  exact dEq_self (n := m + 1) (by simp only [dpt, h1, Option.map_some]) (by omega)
end Pd
namespace Tx
open PySem L2 Pd
def top (i : Nat) : Stmt := PySem.Challenge.pw_tidinghall_k32_whole_line.main.body.getD i (.Pass ⟨0, 0, 0, 0⟩)
def J : Cn
  | 0 => (Str.ofString "Giver", [Str.ofString "window", Str.ofString "most", Str.ofString "last", Str.ofString "waiting", Str.ofString "flying"])
  | 1 => (Str.ofString "Taker", [Str.ofString "numbers"])
  | 2 => (Str.ofString "TidingError", [])
  | 3 => (Str.ofString "BadName", [])
  | 4 => (Str.ofString "BadPacket", [])
  | 5 => (Str.ofString "BadLine", [])
  | _ => (Str.ofString "", [])
abbrev s_is_level : Stmt := top 8
theorem sc_is_level : FnScope ["level", "sign"] ["level"] (defScope s_is_level) := ⟨rfl, rfl, rfl, by decide +kernel, rfl, by decide +kernel, by decide +kernel⟩
abbrev s_look_grade : Stmt := top 10
theorem sc_look_grade : FnScope ["grade"] ["grade"] (defScope s_look_grade) := ⟨rfl, rfl, rfl, by decide +kernel, rfl, by decide +kernel, by decide +kernel⟩
abbrev s_must : Stmt := top 14
theorem sc_must : FnScope ["right"] ["right"] (defScope s_must) := ⟨rfl, rfl, rfl, by decide +kernel, rfl, by decide +kernel, by decide +kernel⟩
abbrev s_is_body : Stmt := top 15
theorem sc_is_body : FnScope ["body", "sign"] ["body"] (defScope s_is_body) := ⟨rfl, rfl, rfl, by decide +kernel, rfl, by decide +kernel, by decide +kernel⟩
abbrev s_look_ends : Stmt := top 19
theorem sc_look_ends : FnScope ["window", "most"] ["window", "most"] (defScope s_look_ends) := ⟨rfl, rfl, rfl, by decide +kernel, rfl, by decide +kernel, by decide +kernel⟩
abbrev s_Giver_number : Stmt := inClass (top 20) 1
theorem sc_Giver_number : FnScope ["self", "used", "entry"] ["self"] (defScope s_Giver_number) := ⟨rfl, rfl, rfl, by decide +kernel, rfl, by decide +kernel, by decide +kernel⟩
abbrev s_Giver_place_of : Stmt := inClass (top 20) 5
theorem sc_Giver_place_of : FnScope ["self", "number", "grade", "found", "k"] ["self", "number", "grade"] (defScope s_Giver_place_of) := ⟨rfl, rfl, rfl, by decide +kernel, rfl, by decide +kernel, by decide +kernel⟩
abbrev s_Giver_many : Stmt := inClass (top 20) 8
theorem sc_Giver_many : FnScope ["self"] ["self"] (defScope s_Giver_many) := ⟨rfl, rfl, rfl, by decide +kernel, rfl, by decide +kernel, by decide +kernel⟩
abbrev s_Taker_init : Stmt := inClass (top 21) 0
theorem sc_Taker_init : FnScope ["self"] ["self"] (defScope s_Taker_init) := ⟨rfl, rfl, rfl, by decide +kernel, rfl, by decide +kernel, by decide +kernel⟩
abbrev s_Taker_took : Stmt := inClass (top 21) 1
theorem sc_Taker_took : FnScope ["self", "packet", "tiding", "number"] ["self", "packet"] (defScope s_Taker_took) := ⟨rfl, rfl, rfl, by decide +kernel, rfl, by decide +kernel, by decide +kernel⟩
abbrev s_law_cell : Stmt := top 23
theorem sc_law_cell : FnScope ["script", "k"] ["script", "k"] (defScope s_law_cell) := ⟨rfl, rfl, rfl, by decide +kernel, rfl, by decide +kernel, by decide +kernel⟩
abbrev s_law_good : Stmt := top 27
theorem sc_law_good : FnScope ["said", "came", "grade", "mine", "its", "first", "turned", "one", "k"] ["said", "came"] (defScope s_law_good) := ⟨rfl, rfl, rfl, by decide +kernel, rfl, by decide +kernel, by decide +kernel⟩
abbrev s_look_name : Stmt := top 9
theorem sc_look_name : FnScope ["name", "levels", "level"] ["name"] (defScope s_look_name) := ⟨rfl, rfl, rfl, by decide +kernel, rfl, by decide +kernel, by decide +kernel⟩
abbrev s_Giver_init : Stmt := inClass (top 20) 0
theorem sc_Giver_init : FnScope ["self", "window", "most"] ["self", "window", "most"] (defScope s_Giver_init) := ⟨rfl, rfl, rfl, by decide +kernel, rfl, by decide +kernel, by decide +kernel⟩
abbrev s_Giver_pump : Stmt := inClass (top 20) 2
theorem sc_Giver_pump : FnScope ["self", "found", "name", "body", "grade", "kept", "number"] ["self"] (defScope s_Giver_pump) := ⟨rfl, rfl, rfl, by decide +kernel, rfl, by decide +kernel, by decide +kernel⟩
abbrev s_law_mix : Stmt := top 24
theorem sc_law_mix : FnScope ["script", "k", "number"] ["script", "k"] (defScope s_law_mix) := ⟨rfl, rfl, rfl, by decide +kernel, rfl, by decide +kernel, by decide +kernel⟩
abbrev s_look_tiding : Stmt := top 16
theorem sc_look_tiding : FnScope ["name", "body", "grade", "kept"] ["name", "body", "grade", "kept"] (defScope s_look_tiding) := ⟨rfl, rfl, rfl, by decide +kernel, rfl, by decide +kernel, by decide +kernel⟩
abbrev s_Giver_took : Stmt := inClass (top 20) 6
theorem sc_Giver_took : FnScope ["self", "packet", "word", "number", "at"] ["self", "packet"] (defScope s_Giver_took) := ⟨rfl, rfl, rfl, by decide +kernel, rfl, by decide +kernel, by decide +kernel⟩
abbrev s_Giver_again : Stmt := inClass (top 20) 7
theorem sc_Giver_again : FnScope ["self", "found", "number", "grade", "tiding"] ["self"] (defScope s_Giver_again) := ⟨rfl, rfl, rfl, by decide +kernel, rfl, by decide +kernel, by decide +kernel⟩
abbrev s_law_draw : Stmt := top 25
theorem sc_law_draw : FnScope ["script", "town", "many"] ["script", "town", "many"] (defScope s_law_draw) := ⟨rfl, rfl, rfl, by decide +kernel, rfl, by decide +kernel, by decide +kernel⟩
abbrev s_Giver_keep : Stmt := inClass (top 20) 3
theorem sc_Giver_keep : FnScope ["self", "name", "body", "grade", "kept"] ["self", "name", "body", "grade", "kept"] (defScope s_Giver_keep) := ⟨rfl, rfl, rfl, by decide +kernel, rfl, by decide +kernel, by decide +kernel⟩
abbrev s_law_carried : Stmt := top 26
theorem sc_law_carried : FnScope ["giver", "taker", "there", "back", "came", "answers", "tidings"] ["giver", "taker", "there", "back", "came"] (defScope s_law_carried) := ⟨rfl, rfl, rfl, by decide +kernel, rfl, by decide +kernel, by decide +kernel⟩
abbrev s_Giver_say : Stmt := inClass (top 20) 4
theorem sc_Giver_say : FnScope ["self", "name", "body", "grade", "kept"] ["self", "name", "body", "grade", "kept"] (defScope s_Giver_say) := ⟨rfl, rfl, rfl, by decide +kernel, rfl, by decide +kernel, by decide +kernel⟩
abbrev s_law : Stmt := top 28
theorem sc_law : FnScope ["script", "town", "window", "giver", "taker", "there", "back", "said", "came", "k", "way"] ["script"] (defScope s_law) := ⟨rfl, rfl, rfl, by decide +kernel, rfl, by decide +kernel, by decide +kernel⟩
structure Ad where
  (f_is_level f_look_grade f_must f_is_body f_look_ends f_Giver_number f_Giver_place_of f_Giver_many f_Taker_init f_Taker_took f_law_cell f_law_good f_look_name f_Giver_init f_Giver_pump f_law_mix f_look_tiding f_Giver_took f_Giver_again f_law_draw f_Giver_keep f_law_carried f_Giver_say f_law C_Giver C_Taker C_TidingError C_BadName C_BadPacket C_BadLine : Addr)
  (t_MOST_LEVELS t_MOST_SIGNS t_MOST_BODY t_MOST_ID t_MOST_WINDOW : Tok)
structure Txt (K : PySem.W.Frag) (mg : Str → Option Value) (A : Ad) : Prop where
  d_is_level : ∃ fd, Fun K "is_level" "is_level" s_is_level A.f_is_level fd ∧ Binds K fd ["level"] []
  g_is_level : mg "is_level" = some (.ref A.f_is_level)
  k_is_level : PySem.W.keepIn K (.ref A.f_is_level) = true
  d_look_grade : ∃ fd, Fun K "look_grade" "look_grade" s_look_grade A.f_look_grade fd ∧ Binds K fd ["grade"] []
  g_look_grade : mg "look_grade" = some (.ref A.f_look_grade)
  k_look_grade : PySem.W.keepIn K (.ref A.f_look_grade) = true
  d_must : ∃ fd, Fun K "must" "must" s_must A.f_must fd ∧ Binds K fd ["right"] []
  g_must : mg "must" = some (.ref A.f_must)
  k_must : PySem.W.keepIn K (.ref A.f_must) = true
  d_is_body : ∃ fd, Fun K "is_body" "is_body" s_is_body A.f_is_body fd ∧ Binds K fd ["body"] []
  g_is_body : mg "is_body" = some (.ref A.f_is_body)
  k_is_body : PySem.W.keepIn K (.ref A.f_is_body) = true
  d_look_ends : ∃ fd, Fun K "look_ends" "look_ends" s_look_ends A.f_look_ends fd ∧ Binds K fd ["window", "most"] []
  g_look_ends : mg "look_ends" = some (.ref A.f_look_ends)
  k_look_ends : PySem.W.keepIn K (.ref A.f_look_ends) = true
  d_Giver_number : ∃ fd, Fun K "number" "Giver.number" s_Giver_number A.f_Giver_number fd ∧ Binds K fd ["self"] []
  d_Giver_place_of : ∃ fd, Fun K "place_of" "Giver.place_of" s_Giver_place_of A.f_Giver_place_of fd ∧ Binds K fd ["self", "number", "grade"] []
  d_Giver_many : ∃ fd, Fun K "many" "Giver.many" s_Giver_many A.f_Giver_many fd ∧ Binds K fd ["self"] []
  d_Taker_init : ∃ fd, Fun K "__init__" "Taker.__init__" s_Taker_init A.f_Taker_init fd ∧ Binds K fd ["self"] []
  d_Taker_took : ∃ fd, Fun K "took" "Taker.took" s_Taker_took A.f_Taker_took fd ∧ Binds K fd ["self", "packet"] []
  d_law_cell : ∃ fd, Fun K "_law_cell" "_law_cell" s_law_cell A.f_law_cell fd ∧ Binds K fd ["script", "k"] []
  g_law_cell : mg "_law_cell" = some (.ref A.f_law_cell)
  k_law_cell : PySem.W.keepIn K (.ref A.f_law_cell) = true
  d_law_good : ∃ fd, Fun K "_law_good" "_law_good" s_law_good A.f_law_good fd ∧ Binds K fd ["said", "came"] []
  g_law_good : mg "_law_good" = some (.ref A.f_law_good)
  k_law_good : PySem.W.keepIn K (.ref A.f_law_good) = true
  d_look_name : ∃ fd, Fun K "look_name" "look_name" s_look_name A.f_look_name fd ∧ Binds K fd ["name"] []
  g_look_name : mg "look_name" = some (.ref A.f_look_name)
  k_look_name : PySem.W.keepIn K (.ref A.f_look_name) = true
  d_Giver_init : ∃ fd, Fun K "__init__" "Giver.__init__" s_Giver_init A.f_Giver_init fd ∧ Binds K fd ["self", "window", "most"] []
  d_Giver_pump : ∃ fd, Fun K "pump" "Giver.pump" s_Giver_pump A.f_Giver_pump fd ∧ Binds K fd ["self"] []
  d_law_mix : ∃ fd, Fun K "_law_mix" "_law_mix" s_law_mix A.f_law_mix fd ∧ Binds K fd ["script", "k"] []
  g_law_mix : mg "_law_mix" = some (.ref A.f_law_mix)
  k_law_mix : PySem.W.keepIn K (.ref A.f_law_mix) = true
  d_look_tiding : ∃ fd, Fun K "look_tiding" "look_tiding" s_look_tiding A.f_look_tiding fd ∧ Binds K fd ["name", "body", "grade", "kept"] []
  g_look_tiding : mg "look_tiding" = some (.ref A.f_look_tiding)
  k_look_tiding : PySem.W.keepIn K (.ref A.f_look_tiding) = true
  d_Giver_took : ∃ fd, Fun K "took" "Giver.took" s_Giver_took A.f_Giver_took fd ∧ Binds K fd ["self", "packet"] []
  d_Giver_again : ∃ fd, Fun K "again" "Giver.again" s_Giver_again A.f_Giver_again fd ∧ Binds K fd ["self"] []
  d_law_draw : ∃ fd, Fun K "_law_draw" "_law_draw" s_law_draw A.f_law_draw fd ∧ Binds K fd ["script", "town", "many"] []
  g_law_draw : mg "_law_draw" = some (.ref A.f_law_draw)
  k_law_draw : PySem.W.keepIn K (.ref A.f_law_draw) = true
  d_Giver_keep : ∃ fd, Fun K "keep" "Giver.keep" s_Giver_keep A.f_Giver_keep fd ∧ Binds K fd ["self", "name", "body", "grade", "kept"] []
  d_law_carried : ∃ fd, Fun K "_law_carried" "_law_carried" s_law_carried A.f_law_carried fd ∧ Binds K fd ["giver", "taker", "there", "back", "came"] []
  g_law_carried : mg "_law_carried" = some (.ref A.f_law_carried)
  k_law_carried : PySem.W.keepIn K (.ref A.f_law_carried) = true
  d_Giver_say : ∃ fd, Fun K "say" "Giver.say" s_Giver_say A.f_Giver_say fd ∧ Binds K fd ["self", "name", "body", "grade", "kept"] []
  d_law : ∃ fd, Fun K "law" "law" s_law A.f_law fd ∧ Binds K fd ["script"] []
  g_law : mg "law" = some (.ref A.f_law)
  k_law : PySem.W.keepIn K (.ref A.f_law) = true
  a_Giver_window : AtF J K mg 0 0 "window"
  a_Giver_most : AtF J K mg 0 1 "most"
  a_Giver_last : AtF J K mg 0 2 "last"
  a_Giver_waiting : AtF J K mg 0 3 "waiting"
  a_Giver_flying : AtF J K mg 0 4 "flying"
  mk_Giver : MkF J K mg 0 A.C_Giver A.f_Giver_init
  me_Giver_number : MeF J K mg 0 "number" A.C_Giver A.f_Giver_number
  me_Giver_place_of : MeF J K mg 0 "place_of" A.C_Giver A.f_Giver_place_of
  me_Giver_many : MeF J K mg 0 "many" A.C_Giver A.f_Giver_many
  me_Giver_pump : MeF J K mg 0 "pump" A.C_Giver A.f_Giver_pump
  me_Giver_took : MeF J K mg 0 "took" A.C_Giver A.f_Giver_took
  me_Giver_again : MeF J K mg 0 "again" A.C_Giver A.f_Giver_again
  me_Giver_keep : MeF J K mg 0 "keep" A.C_Giver A.f_Giver_keep
  me_Giver_say : MeF J K mg 0 "say" A.C_Giver A.f_Giver_say
  a_Taker_numbers : AtF J K mg 1 0 "numbers"
  mk_Taker : MkF J K mg 1 A.C_Taker A.f_Taker_init
  me_Taker_took : MeF J K mg 1 "took" A.C_Taker A.f_Taker_took
  x_TidingError : PySem.W.excIn K A.C_TidingError [.type "ValueError", .type "Exception", .type "BaseException", .type "object"] "ValueError.__new__" = true
  gc_TidingError : mg "TidingError" = some (.ref A.C_TidingError)
  kc_TidingError : PySem.W.keepIn K (.ref A.C_TidingError) = true
  b_TidingError : PySem.W.subIn K (.ref A.C_TidingError) (.type "BaseException") = some true
  t_TidingError : PySem.W.typeIn K (.ref A.C_TidingError) = some (.type "type")
  x_BadName : PySem.W.excIn K A.C_BadName [.type "ValueError", .type "Exception", .type "BaseException", .type "object"] "ValueError.__new__" = true
  gc_BadName : mg "BadName" = some (.ref A.C_BadName)
  kc_BadName : PySem.W.keepIn K (.ref A.C_BadName) = true
  b_BadName : PySem.W.subIn K (.ref A.C_BadName) (.type "BaseException") = some true
  t_BadName : PySem.W.typeIn K (.ref A.C_BadName) = some (.type "type")
  x_BadPacket : PySem.W.excIn K A.C_BadPacket [.type "ValueError", .type "Exception", .type "BaseException", .type "object"] "ValueError.__new__" = true
  gc_BadPacket : mg "BadPacket" = some (.ref A.C_BadPacket)
  kc_BadPacket : PySem.W.keepIn K (.ref A.C_BadPacket) = true
  b_BadPacket : PySem.W.subIn K (.ref A.C_BadPacket) (.type "BaseException") = some true
  t_BadPacket : PySem.W.typeIn K (.ref A.C_BadPacket) = some (.type "type")
  x_BadLine : PySem.W.excIn K A.C_BadLine [.type "ValueError", .type "Exception", .type "BaseException", .type "object"] "ValueError.__new__" = true
  gc_BadLine : mg "BadLine" = some (.ref A.C_BadLine)
  kc_BadLine : PySem.W.keepIn K (.ref A.C_BadLine) = true
  b_BadLine : PySem.W.subIn K (.ref A.C_BadLine) (.type "BaseException") = some true
  t_BadLine : PySem.W.typeIn K (.ref A.C_BadLine) = some (.type "type")
  n_all : mg "all" = none
  n_len : mg "len" = none
  n_ord : mg "ord" = none
  n_range : mg "range" = none
  n_str : mg "str" = none
  c_MOST_LEVELS : mg "MOST_LEVELS" = some (.int 8 A.t_MOST_LEVELS)
  c_MOST_SIGNS : mg "MOST_SIGNS" = some (.int 12 A.t_MOST_SIGNS)
  c_MOST_BODY : mg "MOST_BODY" = some (.int 300 A.t_MOST_BODY)
  c_MOST_ID : mg "MOST_ID" = some (.int 65535 A.t_MOST_ID)
  c_MOST_WINDOW : mg "MOST_WINDOW" = some (.int 20 A.t_MOST_WINDOW)
/-! ### what each def means -/
noncomputable def b_is_level : Sx := sSeq (sIf (tBl (eOp dGt (eUn dLen (eVar 0)) (eC (.int 12)))) (sRet (eC (.bl false))) (sNext)) (sRet (eUn dAll (eLc nwF [1] (iSeq (eVar 0)) (gN 1) (Pd.tYes) (eAnd (eChain dLe dLt (eC (.int 32)) (eUn dOrd (eVar 1)) (eC (.int 127))) (eAnd (eOp dNe (eUn dOrd (eVar 1)) (eC (.int 37))) (eOp dNotIn (eVar 1) (eC (.str (Str.ofString "+#/")))))))))
noncomputable def m_is_level : Fn := fnOf 2 b_is_level
noncomputable def b_look_grade : Sx := sIf (tNot (tBl (eChain dLe dLe (eC (.int 0)) (eVar 0) (eC (.int 2))))) (sRaise 3) (sNext)
noncomputable def m_look_grade : Fn := fnOf 1 b_look_grade
noncomputable def b_must : Sx := sIf (tNot (tTru (eVar 0))) (sRaise 4) (sNext)
noncomputable def m_must : Fn := fnOf 1 b_must
noncomputable def b_is_body : Sx := sRet (eAnd (eOp dLe (eUn dLen (eVar 0)) (eC (.int 300))) (eUn dAll (eLc nwF [1] (iSeq (eVar 0)) (gN 1) (Pd.tYes) (eAnd (eChain dLe dLt (eC (.int 32)) (eUn dOrd (eVar 1)) (eC (.int 127))) (eOp dNe (eUn dOrd (eVar 1)) (eC (.int 37)))))))
noncomputable def m_is_body : Fn := fnOf 2 b_is_body
noncomputable def b_look_ends : Sx := sIf (tOr (tNot (tBl (eChain dLe dLe (eC (.int 1)) (eVar 0) (eC (.int 20))))) (tNot (tBl (eChain dLe dLe (eVar 0) (eVar 1) (eC (.int 65535)))))) (sRaise 5) (sNext)
noncomputable def m_look_ends : Fn := fnOf 2 b_look_ends
noncomputable def l_Giver_number_1 : Sx := sSetF 0 2 (eVar 0) (eIf (tBl (eOp dLt (eFld 0 2 (eVar 0)) (eFld 0 1 (eVar 0)))) (eOp (dAdd nwF) (eFld 0 2 (eVar 0)) (eC (.int 1))) (eC (.int 1)))
noncomputable def u_Giver_number_1 : Sx := sAsg (eLc nwF [2] (iSeq (eFld 0 4 (eVar 0))) (gN 2) (Pd.tYes) (eOp dIx (eVar 2) (eC (.int 0)))) (gN 1)
noncomputable def u_Giver_number_2 : Sx := sSetF 0 2 (eVar 0) (eIf (tBl (eOp dLt (eFld 0 2 (eVar 0)) (eFld 0 1 (eVar 0)))) (eOp (dAdd nwF) (eFld 0 2 (eVar 0)) (eC (.int 1))) (eC (.int 1)))
noncomputable def u_Giver_number_3 : Sx := whGo (tBl (eOp dIn (eFld 0 2 (eVar 0)) (eVar 1))) (l_Giver_number_1) 100000
noncomputable def u_Giver_number_4 : Sx := sRet (eFld 0 2 (eVar 0))
noncomputable def b_Giver_number : Sx := sSeq u_Giver_number_1 (sSeq u_Giver_number_2 (sSeq u_Giver_number_3 (u_Giver_number_4)))
noncomputable def m_Giver_number : Fn := fnOf 3 b_Giver_number
noncomputable def b_Giver_place_of : Sx := sSeq (sAsg (eLc nwF [4] (iRange (eUn dLen (eFld 0 4 (eVar 0)))) (gN 4) (tBl (eOp dEq (eSl nwF (eOp dIx (eFld 0 4 (eVar 0)) (eVar 4)) none (some (eC (.int 2)))) (eTup [eVar 1, eVar 2]))) (eVar 4)) (gN 3)) (sRet (eIf (tTru (eVar 3)) (eOp dIx (eVar 3) (eC (.int 0))) (eC .non)))
noncomputable def m_Giver_place_of : Fn := fnOf 5 b_Giver_place_of
noncomputable def b_Giver_many : Sx := sRet (eTup [eUn dLen (eFld 0 4 (eVar 0)), eUn dLen (eFld 0 3 (eVar 0))])
noncomputable def m_Giver_many : Fn := fnOf 1 b_Giver_many
noncomputable def b_Taker_init : Sx := sSetF 1 0 (eVar 0) (eLst nwM [])
noncomputable def m_Taker_init : Fn := fnOf 1 b_Taker_init
noncomputable def b_Taker_took : Sx := sSeq (sIf (tBl (eOp dEq (eOp dIx (eVar 1) (eC (.int 0))) (eC (.str (Str.ofString "free"))))) (sSeq (sSetF 1 0 (eVar 0) (eLc nwM [3] (iSeq (eFld 1 0 (eVar 0))) (gN 3) (tBl (eOp dNe (eVar 3) (eOp dIx (eVar 1) (eC (.int 1))))) (eVar 3))) (sRet (eTup [eLst nwF [eTup [eC (.str (Str.ofString "done")), eOp dIx (eVar 1) (eC (.int 1))]], eLst nwF []]))) (sNext)) (sSeq (sAsg (eSl nwF (eVar 1) (some (eC (.int 1))) (some (eC (.int 5)))) (gN 2)) (sSeq (sIf (tBl (eOp dEq (eOp dIx (eVar 1) (eC (.int 3))) (eC (.int 0)))) (sRet (eTup [eLst nwF [], eLst nwF [eVar 2]])) (sNext)) (sSeq (sIf (tBl (eOp dEq (eOp dIx (eVar 1) (eC (.int 3))) (eC (.int 1)))) (sRet (eTup [eLst nwF [eTup [eC (.str (Str.ofString "got")), eOp dIx (eVar 1) (eC (.int 6))]], eLst nwF [eVar 2]])) (sNext)) (sSeq (sIf (tBl (eOp dIn (eOp dIx (eVar 1) (eC (.int 6))) (eFld 1 0 (eVar 0)))) (sRet (eTup [eLst nwF [eTup [eC (.str (Str.ofString "held")), eOp dIx (eVar 1) (eC (.int 6))]], eLst nwF []])) (sNext)) (sSeq (sExpr (eBm1 isLst dApp (eFld 1 0 (eVar 0)) (eOp dIx (eVar 1) (eC (.int 6))))) (sRet (eTup [eLst nwF [eTup [eC (.str (Str.ofString "held")), eOp dIx (eVar 1) (eC (.int 6))]], eLst nwF [eVar 2]])))))))
noncomputable def m_Taker_took : Fn := fnOf 4 b_Taker_took
noncomputable def b_law_cell : Sx := sSeq (sIf (tTru (eVar 0)) (sRet (eOp dIx (eVar 0) (eOp dMod (eVar 1) (eUn dLen (eVar 0))))) (sNext)) (sRet (eC (.int 0)))
noncomputable def m_law_cell : Fn := fnOf 2 b_law_cell
noncomputable def w_law_good_1 : Sx := sAsg (eLc nwF [7] (iSeq (eVar 0)) (gN 7) (tBl (eOp dEq (eOp dIx (eVar 7) (eC (.int 2))) (eVar 2))) (eVar 7)) (gN 3)
noncomputable def w_law_good_2 : Sx := sAsg (eLc nwF [7] (iSeq (eVar 1)) (gN 7) (tBl (eOp dEq (eOp dIx (eVar 7) (eC (.int 2))) (eVar 2))) (eVar 7)) (gN 4)
noncomputable def w_law_good_3 : Sx := sAsg (eLc nwF [8] (iRange (eUn dLen (eVar 4))) (gN 8) (tBl (eOp dNotIn (eOp dIx (eVar 4) (eVar 8)) (eSl nwF (eVar 4) none (some (eVar 8))))) (eOp dIx (eVar 4) (eVar 8))) (gN 5)
noncomputable def w_law_good_4 : Sx := sIf (tOr (tAnd (tBl (eOp dEq (eVar 2) (eC (.int 2)))) (tBl (eOp dNe (eVar 4) (eVar 3)))) (tAnd (tBl (eOp dEq (eVar 2) (eC (.int 1)))) (tBl (eOp dNe (eVar 5) (eVar 3))))) (sRet (eC (.bl false))) (sNext)
noncomputable def w_law_good_5 : Sx := sAsg (eLc nwF [7] (iSeq (eVar 3)) (gN 7) (tBl (eOp dIn (eVar 7) (eVar 4))) (eVar 7)) (gN 6)
noncomputable def w_law_good_6 : Sx := sIf (tAnd (tBl (eOp dEq (eVar 2) (eC (.int 0)))) (tOr (tBl (eOp dNe (eVar 4) (eVar 5))) (tBl (eOp dNe (eVar 4) (eVar 6))))) (sRet (eC (.bl false))) (sNext)
noncomputable def l_law_good_1 : Sx := sSeq w_law_good_1 (sSeq w_law_good_2 (sSeq w_law_good_3 (sSeq w_law_good_4 (sSeq w_law_good_5 (w_law_good_6)))))
noncomputable def u_law_good_1 : Sx := sFor (iRange (eC (.int 3))) (gN 2) (l_law_good_1)
noncomputable def u_law_good_2 : Sx := sRet (eOp dEq (eUn dLen (eVar 1)) (eUn dLen (eLc nwF [7] (iSeq (eVar 1)) (gN 7) (tBl (eOp dIn (eVar 7) (eVar 0))) (eVar 7))))
noncomputable def b_law_good : Sx := sSeq u_law_good_1 (u_law_good_2)
noncomputable def m_law_good : Fn := fnOf 9 b_law_good
noncomputable def b_look_name : Sx := sSeq (sAsg (eBm1 isStr (dSplit nwF) (eVar 0) (eC (.str (Str.ofString "/")))) (gN 1)) (sIf (tOr (tBl (eOp dEq (eVar 0) (eC (.str (Str.ofString ""))))) (tOr (tBl (eOp dGt (eUn dLen (eVar 1)) (eC (.int 8)))) (tNot (tTru (eUn dAll (eLc nwF [2] (iSeq (eVar 1)) (gN 2) (Pd.tYes) (eCall m_is_level [eVar 2]))))))) (sRaise 3) (sNext))
noncomputable def m_look_name : Fn := fnOf 3 b_look_name
noncomputable def b_Giver_init : Sx := sSeq (sExpr (eCall m_look_ends [eVar 1, eVar 2])) (sSeq (sSetF 0 0 (eVar 0) (eVar 1)) (sSeq (sSetF 0 1 (eVar 0) (eVar 2)) (sSeq (sSetF 0 2 (eVar 0) (eC (.int 0))) (sSeq (sSetF 0 3 (eVar 0) (eLst nwM [])) (sSetF 0 4 (eVar 0) (eLst nwM []))))))
noncomputable def m_Giver_init : Fn := fnOf 3 b_Giver_init
noncomputable def w_Giver_pump_1 : Sx := sAsg (eOp dIx (eFld 0 3 (eVar 0)) (eC (.int 0))) (gT [2, 3, 4, 5])
noncomputable def w_Giver_pump_2 : Sx := sSetF 0 3 (eVar 0) (eSl nwM (eFld 0 3 (eVar 0)) (some (eC (.int 1))) none)
noncomputable def w_Giver_pump_3 : Sx := sAsg (eMeth 0 m_Giver_number (eVar 0) []) (gN 6)
noncomputable def w_Giver_pump_4 : Sx := sExpr (eBm1 isLst dApp (eFld 0 4 (eVar 0)) (eTup [eVar 6, eVar 4, eTup [eVar 2, eVar 3, eVar 4, eVar 5]]))
noncomputable def w_Giver_pump_5 : Sx := sExpr (eBm1 isLst dApp (eVar 1) (eTup [eC (.str (Str.ofString "say")), eVar 2, eVar 3, eVar 4, eVar 5, eC (.bl false), eVar 6]))
noncomputable def l_Giver_pump_1 : Sx := sSeq w_Giver_pump_1 (sSeq w_Giver_pump_2 (sSeq w_Giver_pump_3 (sSeq w_Giver_pump_4 (w_Giver_pump_5))))
noncomputable def u_Giver_pump_1 : Sx := sAsg (eLst nwM []) (gN 1)
noncomputable def u_Giver_pump_2 : Sx := whGo (tAnd (tTru (eFld 0 3 (eVar 0))) (tBl (eOp dLt (eUn dLen (eFld 0 4 (eVar 0))) (eFld 0 0 (eVar 0))))) (l_Giver_pump_1) 100000
noncomputable def u_Giver_pump_3 : Sx := sRet (eVar 1)
noncomputable def b_Giver_pump : Sx := sSeq u_Giver_pump_1 (sSeq u_Giver_pump_2 (u_Giver_pump_3))
noncomputable def m_Giver_pump : Fn := fnOf 7 b_Giver_pump
noncomputable def b_law_mix : Sx := sSeq (sAsg (eOp dMod (eOp (dAdd nwF) (eCall m_law_cell [eVar 0, eVar 1]) (eOp dMul (eC (.int 104729)) (eOp (dAdd nwF) (eVar 1) (eC (.int 1))))) (eC (.int 4294967291))) (gN 2)) (sSeq (sAsg (eOp dMod (eOp dPow (eVar 2) (eC (.int 5))) (eC (.int 4294967279))) (gN 2)) (sRet (eOp dMod (eOp (dAdd nwF) (eOp dMul (eOp dFdv (eVar 2) (eC (.int 64))) (eC (.int 69621))) (eVar 2)) (eC (.int 4294967231)))))
noncomputable def m_law_mix : Fn := fnOf 3 b_law_mix
noncomputable def b_look_tiding : Sx := sSeq (sExpr (eCall m_look_name [eVar 0])) (sSeq (sExpr (eCall m_look_grade [eVar 2])) (sExpr (eCall m_must [eAnd (eCall m_is_body [eVar 1]) (eOp dIn (eVar 3) (eTup [eC (.bl true), eC (.bl false)]))])))
noncomputable def m_look_tiding : Fn := fnOf 4 b_look_tiding
noncomputable def u_Giver_took_1 : Sx := sAsg (eVar 1) (gT [2, 3])
noncomputable def u_Giver_took_2 : Sx := sIf (tBl (eOp dEq (eVar 2) (eC (.str (Str.ofString "held"))))) (sSeq (sAsg (eMeth 0 m_Giver_place_of (eVar 0) [eVar 3, eC (.int 2)]) (gN 4)) (sSeq (sIf (tBl (eUn dNotN (eVar 4))) (sSetI (eFld 0 4 (eVar 0)) (eVar 4) (eTup [eVar 3, eC (.int 3), eC .non])) (sNext)) (sRet (eIf (tOr (tBl (eUn dNotN (eVar 4))) (tBl (eUn dNotN (eMeth 0 m_Giver_place_of (eVar 0) [eVar 3, eC (.int 3)])))) (eLst nwF [eTup [eC (.str (Str.ofString "free")), eVar 3]]) (eLst nwF []))))) (sNext)
noncomputable def u_Giver_took_3 : Sx := sAsg (eMeth 0 m_Giver_place_of (eVar 0) [eVar 3, eIf (tBl (eOp dEq (eVar 2) (eC (.str (Str.ofString "got"))))) (eC (.int 1)) (eC (.int 3))]) (gN 4)
noncomputable def u_Giver_took_4 : Sx := sIf (tBl (eUn dIsN (eVar 4))) (sRet (eLst nwF [])) (sNext)
noncomputable def u_Giver_took_5 : Sx := sSetF 0 4 (eVar 0) (eOp (dAdd nwM) (eSl nwF (eFld 0 4 (eVar 0)) none (some (eVar 4))) (eSl nwF (eFld 0 4 (eVar 0)) (some (eOp (dAdd nwF) (eVar 4) (eC (.int 1)))) none))
noncomputable def u_Giver_took_6 : Sx := sRet (eMeth 0 m_Giver_pump (eVar 0) [])
noncomputable def b_Giver_took : Sx := sSeq u_Giver_took_1 (sSeq u_Giver_took_2 (sSeq u_Giver_took_3 (sSeq u_Giver_took_4 (sSeq u_Giver_took_5 (u_Giver_took_6)))))
noncomputable def m_Giver_took : Fn := fnOf 5 b_Giver_took
noncomputable def l_Giver_again_1 : Sx := sIf (tBl (eUn dIsN (eVar 4))) (sExpr (eBm1 isLst dApp (eVar 1) (eTup [eC (.str (Str.ofString "free")), eVar 2]))) (sExpr (eBm1 isLst dApp (eVar 1) (eOp (dAdd nwF) (eOp (dAdd nwF) (eTup [eC (.str (Str.ofString "say"))]) (eVar 4)) (eTup [eC (.bl true), eVar 2]))))
noncomputable def u_Giver_again_1 : Sx := sAsg (eLst nwM []) (gN 1)
noncomputable def u_Giver_again_2 : Sx := sFor (iSeq (eFld 0 4 (eVar 0))) (gT [2, 3, 4]) (l_Giver_again_1)
noncomputable def u_Giver_again_3 : Sx := sRet (eOp (dAdd nwM) (eVar 1) (eMeth 0 m_Giver_pump (eVar 0) []))
noncomputable def b_Giver_again : Sx := sSeq u_Giver_again_1 (sSeq u_Giver_again_2 (u_Giver_again_3))
noncomputable def m_Giver_again : Fn := fnOf 5 b_Giver_again
noncomputable def b_law_draw : Sx := sSeq (sExpr (eBm1 isLst dApp (eVar 1) (eC (.int 0)))) (sRet (eOp dMod (eOp dFdv (eCall m_law_mix [eVar 0, eUn dLen (eVar 1)]) (eC (.int 8))) (eVar 2)))
noncomputable def m_law_draw : Fn := fnOf 3 b_law_draw
noncomputable def b_Giver_keep : Sx := sSeq (sExpr (eCall m_look_tiding [eVar 1, eVar 2, eVar 3, eVar 4])) (sIf (tBl (eOp dGt (eVar 3) (eC (.int 0)))) (sExpr (eBm1 isLst dApp (eFld 0 3 (eVar 0)) (eTup [eVar 1, eVar 2, eVar 3, eVar 4]))) (sNext))
noncomputable def m_Giver_keep : Fn := fnOf 5 b_Giver_keep
noncomputable def u_law_carried_1 : Sx := sIf (tTru (eVar 2)) (sSeq (sAsg (eMeth 1 m_Taker_took (eVar 1) [eBm1 isLst dPopAt (eVar 2) (eC (.int 0))]) (gT [5, 6])) (sSeq (sExpr (eBm1 isLst dExt (eVar 3) (eVar 5))) (sExpr (eBm1 isLst dExt (eVar 4) (eVar 6))))) (sIf (tTru (eVar 3)) (sExpr (eBm1 isLst dExt (eVar 2) (eMeth 0 m_Giver_took (eVar 0) [eBm1 isLst dPopAt (eVar 3) (eC (.int 0))]))) (sNext))
noncomputable def b_law_carried : Sx := u_law_carried_1
noncomputable def m_law_carried : Fn := fnOf 7 b_law_carried
noncomputable def b_Giver_say : Sx := sSeq (sExpr (eCall m_look_tiding [eVar 1, eVar 2, eVar 3, eVar 4])) (sSeq (sIf (tBl (eOp dEq (eVar 3) (eC (.int 0)))) (sRet (eLst nwF [eTup [eC (.str (Str.ofString "say")), eVar 1, eVar 2, eC (.int 0), eVar 4, eC (.bl false), eC (.int 0)]])) (sNext)) (sSeq (sExpr (eMeth 0 m_Giver_keep (eVar 0) [eVar 1, eVar 2, eVar 3, eVar 4])) (sRet (eMeth 0 m_Giver_pump (eVar 0) []))))
noncomputable def m_Giver_say : Fn := fnOf 5 b_Giver_say
noncomputable def w_law_1 : Sx := sAsg (eCall m_law_draw [eVar 0, eVar 1, eC (.int 12)]) (gN 10)
noncomputable def w_law_2 : Sx := sIf (tAnd (tBl (eOp dLt (eVar 10) (eC (.int 3)))) (tBl (eOp dLt (eUn dLen (eVar 7)) (eC (.int 16))))) (sSeq (sExpr (eBm1 isLst dApp (eVar 7) (eTup [eC (.str (Str.ofString "a")), eOp (dAdd nwF) (eC (.str (Str.ofString "n"))) (eUn dStr (eUn dLen (eVar 7))), eCall m_law_draw [eVar 0, eVar 1, eC (.int 3)], eOp dEq (eVar 10) (eC (.int 0))]))) (sExpr (eBm1 isLst dExt (eVar 5) (eMeth 0 m_Giver_say (eVar 3) [eOp dIx (eOp dIx (eVar 7) (eUn dNeg (eC (.int 1)))) (eC (.int 0)), eOp dIx (eOp dIx (eVar 7) (eUn dNeg (eC (.int 1)))) (eC (.int 1)), eOp dIx (eOp dIx (eVar 7) (eUn dNeg (eC (.int 1)))) (eC (.int 2)), eOp dIx (eOp dIx (eVar 7) (eUn dNeg (eC (.int 1)))) (eC (.int 3))])))) (sIf (tBl (eOp dLt (eVar 10) (eC (.int 6)))) (sExpr (eCall m_law_carried [eVar 3, eVar 4, eVar 5, eVar 6, eVar 8])) (sIf (tAnd (tBl (eOp dLt (eVar 10) (eC (.int 10)))) (tTru (eVar 6))) (sExpr (eBm1 isLst dExt (eVar 5) (eMeth 0 m_Giver_took (eVar 3) [eBm1 isLst dPopAt (eVar 6) (eC (.int 0))]))) (sIf (tBl (eOp dEq (eVar 10) (eC (.int 11)))) (sSeq (sAsg (eLst nwM []) (gN 5)) (sSeq (sAsg (eLst nwM []) (gN 6)) (sExpr (eBm1 isLst dExt (eVar 5) (eMeth 0 m_Giver_again (eVar 3) []))))) (sNext))))
noncomputable def w_law_3 : Sx := sIf (tBl (eOp dGt (eOp dIx (eMeth 0 m_Giver_many (eVar 3) []) (eC (.int 0))) (eVar 2))) (sRet (eC (.bl false))) (sNext)
noncomputable def l_law_1 : Sx := sSeq w_law_1 (sSeq w_law_2 (w_law_3))
noncomputable def l_law_2 : Sx := sExpr (eCall m_law_carried [eVar 3, eVar 4, eVar 5, eVar 6, eVar 8])
noncomputable def u_law_1 : Sx := sAsg (eLst nwM []) (gN 1)
noncomputable def u_law_2 : Sx := sAsg (eOp (dAdd nwF) (eC (.int 1)) (eCall m_law_draw [eVar 0, eVar 1, eC (.int 4)])) (gN 2)
noncomputable def u_law_3 : Sx := sAsg (eMake 0 m_Giver_init [eVar 2, eOp (dAdd nwF) (eVar 2) (eCall m_law_draw [eVar 0, eVar 1, eC (.int 3)])]) (gN 3)
noncomputable def u_law_4 : Sx := sAsg (eMake 1 m_Taker_init []) (gN 4)
noncomputable def u_law_5 : Sx := sAsg (eLst nwM []) (gN 5)
noncomputable def u_law_6 : Sx := sAsg (eLst nwM []) (gN 6)
noncomputable def u_law_7 : Sx := sAsg (eLst nwM []) (gN 7)
noncomputable def u_law_8 : Sx := sAsg (eLst nwM []) (gN 8)
noncomputable def u_law_9 : Sx := sFor (iRange (eCall m_law_draw [eVar 0, eVar 1, eC (.int 61)])) (gN 9) (l_law_1)
noncomputable def u_law_10 : Sx := sAsg (eMeth 0 m_Giver_again (eVar 3) []) (gN 5)
noncomputable def u_law_11 : Sx := sAsg (eLst nwM []) (gN 6)
noncomputable def u_law_12 : Sx := sFor (iRange (eC (.int 400))) (gN 9) (l_law_2)
noncomputable def u_law_13 : Sx := sRet (eAnd (eOp dEq (eOp (dAdd nwF) (eVar 5) (eVar 6)) (eLst nwF [])) (eAnd (eOp dEq (eMeth 0 m_Giver_many (eVar 3) []) (eTup [eC (.int 0), eC (.int 0)])) (eCall m_law_good [eVar 7, eVar 8])))
noncomputable def b_law : Sx := sSeq u_law_1 (sSeq u_law_2 (sSeq u_law_3 (sSeq u_law_4 (sSeq u_law_5 (sSeq u_law_6 (sSeq u_law_7 (sSeq u_law_8 (sSeq u_law_9 (sSeq u_law_10 (sSeq u_law_11 (sSeq u_law_12 (u_law_13))))))))))))
noncomputable def m_law : Fn := fnOf 11 b_law
theorem m_Giver_init_non : ∀ ds s d s', m_Giver_init ds s = .ok d s' → d = .non := noRt_fn (noRt_seq noRt_expr (noRt_seq noRt_setF (noRt_seq noRt_setF (noRt_seq noRt_setF (noRt_seq noRt_setF (noRt_setF))))))
theorem m_Taker_init_non : ∀ ds s d s', m_Taker_init ds s = .ok d s' → d = .non := noRt_fn (noRt_setF)
end Tx
namespace Tx
open PySem L2 Pd
section
variable {P : Program} {w : World} {K : PySem.W.Frag} {mg : Str → Option Value} {base : Heap} {A : Ad}
theorem d_is_level (T : Txt K mg A) : Df true P w K mg base J 1 1 A.f_is_level m_is_level := by
  obtain ⟨fd, F, hb⟩ := T.d_is_level
  exact df_of F sc_is_level hb fun cdv A outer s H E hr =>
    (ss_cons (ss_if (ts_cmp (c_gt) (es_b1 (b_len) rfl T.n_len (by decide +kernel) (es_var (pv 0))) (es_gint rfl T.c_MOST_SIGNS) (nomark _)) (ss_one (ss_ret (es_bl))) (ss_nil))
      (ss_one (ss_ret (es_b1 (b_all rfl) rfl T.n_all (by decide +kernel) (es_lc (own := [("sign", 1)]) isF rfl sc_is_level.nd (is_seq (es_var (pv 0))) (blkOk_by (own := [("sign", 1)]) (N := ["level", "sign"]) (sc := defScope s_is_level) (by decide +kernel)) (by decide) (fun _ _ _ _ _ => gs_name (pg_name (i := 1) sc_is_level.nd rfl (by first | exact Or.inl rfl | exact Or.inr rfl))) (fun _ _ _ _ _ => tts_nil) (fun _ _ _ _ _ => es_and (es_leLt (es_int) (es_b1 (b_ord) rfl T.n_ord (by decide +kernel) (es_var (pv 1))) (es_int)) (es_and (es_cmp (c_ne hr.units) (es_b1 (b_ord) rfl T.n_ord (by decide +kernel) (es_var (pv 1))) (es_int) (nomark _)) (es_one (es_cmp (c_notIn hr.u65) (es_var (pv 1)) (es_str))))))))))
theorem d_look_grade (T : Txt K mg A) : Df true P w K mg base J 1 1 A.f_look_grade m_look_grade := by
  obtain ⟨fd, F, hb⟩ := T.d_look_grade
  exact df_of F sc_look_grade hb fun cdv A outer s H E hr =>
    (ss_one (ss_if (ts_not (ts_leLe (es_int) (es_var (pv 0)) (es_int))) (ss_one (ss_raise (c := 3) rfl rfl ((tks_of rfl rfl rfl rfl)) PySem.F.excBase_ValueError T.x_BadName T.gc_BadName T.kc_BadName (raises_own T.b_BadName T.t_BadName) rfl)) (ss_nil)))
theorem d_must (T : Txt K mg A) : Df true P w K mg base J 1 1 A.f_must m_must := by
  obtain ⟨fd, F, hb⟩ := T.d_must
  exact df_of F sc_must hb fun cdv A outer s H E hr =>
    (ss_one (ss_if (ts_not (ts_tru (es_var (pv 0)))) (ss_one (ss_raise (c := 4) rfl rfl ((tks_of rfl rfl rfl rfl)) PySem.F.excBase_ValueError T.x_BadPacket T.gc_BadPacket T.kc_BadPacket (raises_own T.b_BadPacket T.t_BadPacket) rfl)) (ss_nil)))
theorem d_is_body (T : Txt K mg A) : Df true P w K mg base J 1 1 A.f_is_body m_is_body := by
  obtain ⟨fd, F, hb⟩ := T.d_is_body
  exact df_of F sc_is_body hb fun cdv A outer s H E hr =>
    (ss_one (ss_ret (es_and (es_cmp (c_le) (es_b1 (b_len) rfl T.n_len (by decide +kernel) (es_var (pv 0))) (es_gint rfl T.c_MOST_BODY) (nomark _)) (es_one (es_b1 (b_all rfl) rfl T.n_all (by decide +kernel) (es_lc (own := [("sign", 1)]) isF rfl sc_is_body.nd (is_seq (es_var (pv 0))) (blkOk_by (own := [("sign", 1)]) (N := ["body", "sign"]) (sc := defScope s_is_body) (by decide +kernel)) (by decide) (fun _ _ _ _ _ => gs_name (pg_name (i := 1) sc_is_body.nd rfl (by first | exact Or.inl rfl | exact Or.inr rfl))) (fun _ _ _ _ _ => tts_nil) (fun _ _ _ _ _ => es_and (es_leLt (es_int) (es_b1 (b_ord) rfl T.n_ord (by decide +kernel) (es_var (pv 1))) (es_int)) (es_one (es_cmp (c_ne hr.units) (es_b1 (b_ord) rfl T.n_ord (by decide +kernel) (es_var (pv 1))) (es_int) (nomark _))))))))))
theorem d_look_ends (T : Txt K mg A) : Df true P w K mg base J 1 2 A.f_look_ends m_look_ends := by
  obtain ⟨fd, F, hb⟩ := T.d_look_ends
  exact df_of F sc_look_ends hb fun cdv A outer s H E hr =>
    (ss_one (ss_if (ts_w (ws_or (ts_not (ts_leLe (es_int) (es_var (pv 0)) (es_gint rfl T.c_MOST_WINDOW))) (ws_or1 (ts_not (ts_leLe (es_var (pv 0)) (es_var (pv 1)) (es_gint rfl T.c_MOST_ID)))))) (ss_one (ss_raise (c := 5) rfl rfl ((tks_of rfl rfl rfl rfl)) PySem.F.excBase_ValueError T.x_BadLine T.gc_BadLine T.kc_BadLine (raises_own T.b_BadLine T.t_BadLine) rfl)) (ss_nil)))
theorem d_Giver_number (T : Txt K mg A) : Df true P w K mg base J 1 1 A.f_Giver_number m_Giver_number := by
  obtain ⟨fd, F, hb⟩ := T.d_Giver_number
  exact df_of F sc_Giver_number hb fun cdv A outer s H E hr =>
    (ss_cons (ss_setLc (i := 1) (own := [("entry", 2)]) isF rfl sc_Giver_number.nd rfl rfl (sw_true rfl rfl rfl (by decide +kernel)) (is_seq (es_fld T.a_Giver_flying (es_var (pv 0)))) (blkOk_by (own := [("entry", 2)]) (N := ["self", "used", "entry"]) (sc := defScope s_Giver_number) (by decide +kernel)) (by decide) (fun _ _ _ _ _ => gs_name (pg_name (i := 2) sc_Giver_number.nd rfl (by first | exact Or.inl rfl | exact Or.inr rfl))) (fun _ _ _ _ _ => tts_nil) (fun _ _ _ _ _ => es_ix (es_var (pv 2)) (es_int)))
      (ss_cons (ss_setF T.a_Giver_last (es_var (pv 0)) (es_if (ts_cmp (c_lt) (es_fld T.a_Giver_last (es_var (pv 0))) (es_fld T.a_Giver_most (es_var (pv 0))) (nomark _)) (es_add isF (es_fld T.a_Giver_last (es_var (pv 0))) (es_int)) (es_int)))
      (ss_cons (ss_while 100000 (passes_of rfl) (ts_cmp (c_in hr.u65) (es_fld T.a_Giver_last (es_var (pv 0))) (es_var (pv 1))) (ss_one (ss_setF T.a_Giver_last (es_var (pv 0)) (es_if (ts_cmp (c_lt) (es_fld T.a_Giver_last (es_var (pv 0))) (es_fld T.a_Giver_most (es_var (pv 0))) (nomark _)) (es_add isF (es_fld T.a_Giver_last (es_var (pv 0))) (es_int)) (es_int)))))
      (ss_one (ss_ret (es_fld T.a_Giver_last (es_var (pv 0))))))))
theorem d_Giver_place_of (T : Txt K mg A) : Df true P w K mg base J 1 3 A.f_Giver_place_of m_Giver_place_of := by
  obtain ⟨fd, F, hb⟩ := T.d_Giver_place_of
  exact df_of F sc_Giver_place_of hb fun cdv A outer s H E hr =>
    (ss_cons (ss_setLc (i := 3) (own := [("k", 4)]) isF rfl sc_Giver_place_of.nd rfl rfl (sw_true rfl rfl rfl (by decide +kernel)) (is_range rfl T.n_range (es_b1 (b_len) rfl T.n_len (by decide +kernel) (es_fld T.a_Giver_flying (es_var (pv 0))))) (blkOk_by (own := [("k", 4)]) (N := ["self", "number", "grade", "found", "k"]) (sc := defScope s_Giver_place_of) (by decide +kernel)) (by decide) (fun _ _ _ _ _ => gs_name (pg_name (i := 4) sc_Giver_place_of.nd rfl (by first | exact Or.inl rfl | exact Or.inr rfl))) (fun _ _ _ _ _ => tts_one (ts_cmp (c_eq hr.units) (es_sl isF (es_ix (es_fld T.a_Giver_flying (es_var (pv 0))) (es_var (pv 4))) (os_none) (os_some (es_int))) (es_tup (as_cons (es_var (pv 1)) (as_cons (es_var (pv 2)) (as_nil)))) (nomark _))) (fun _ _ _ _ _ => es_var (pv 4)))
      (ss_one (ss_ret (es_if (ts_tru (es_var (pv 3))) (es_ix (es_var (pv 3)) (es_int)) (es_non)))))
theorem d_Giver_many (T : Txt K mg A) : Df true P w K mg base J 1 1 A.f_Giver_many m_Giver_many := by
  obtain ⟨fd, F, hb⟩ := T.d_Giver_many
  exact df_of F sc_Giver_many hb fun cdv A outer s H E hr =>
    (ss_one (ss_ret (es_tup (as_cons (es_b1 (b_len) rfl T.n_len (by decide +kernel) (es_fld T.a_Giver_flying (es_var (pv 0)))) (as_cons (es_b1 (b_len) rfl T.n_len (by decide +kernel) (es_fld T.a_Giver_waiting (es_var (pv 0)))) (as_nil))))))
theorem d_Taker_init (T : Txt K mg A) : Df true P w K mg base J 1 1 A.f_Taker_init m_Taker_init := by
  obtain ⟨fd, F, hb⟩ := T.d_Taker_init
  exact df_of F sc_Taker_init hb fun cdv A outer s H E hr =>
    (ss_one (ss_setF T.a_Taker_numbers (es_var (pv 0)) (es_lst isM (as_nil))))
theorem d_Taker_took (T : Txt K mg A) : Df true P w K mg base J 1 2 A.f_Taker_took m_Taker_took := by
  obtain ⟨fd, F, hb⟩ := T.d_Taker_took
  exact df_of F sc_Taker_took hb fun cdv A outer s H E hr =>
    (ss_cons (ss_if (ts_cmp (c_eq hr.units) (es_ix (es_var (pv 1)) (es_int)) (es_str) (nomark _)) (ss_cons (ss_setF T.a_Taker_numbers (es_var (pv 0)) (es_lc (own := [("number", 3)]) isM rfl sc_Taker_took.nd (is_seq (es_fld T.a_Taker_numbers (es_var (pv 0)))) (blkOk_by (own := [("number", 3)]) (N := ["self", "packet", "tiding", "number"]) (sc := defScope s_Taker_took) (by decide +kernel)) (by decide) (fun _ _ _ _ _ => gs_name (pg_name (i := 3) sc_Taker_took.nd rfl (by first | exact Or.inl rfl | exact Or.inr rfl))) (fun _ _ _ _ _ => tts_one (ts_cmp (c_ne hr.units) (es_var (pv 3)) (es_ix (es_var (pv 1)) (es_int)) (nomark _))) (fun _ _ _ _ _ => es_var (pv 3))))
      (ss_one (ss_ret (es_tup (as_cons (es_lst isF (as_cons (es_tup (as_cons (es_str) (as_cons (es_ix (es_var (pv 1)) (es_int)) (as_nil)))) (as_nil))) (as_cons (es_lst isF (as_nil)) (as_nil))))))) (ss_nil))
      (ss_cons (ss_asg (es_sl isF (es_var (pv 1)) (os_some (es_int)) (os_some (es_int))) (gs_name (pg_name (i := 2) sc_Taker_took.nd rfl (by first | exact Or.inl rfl | exact Or.inr rfl))))
      (ss_cons (ss_if (ts_cmp (c_eq hr.units) (es_ix (es_var (pv 1)) (es_int)) (es_int) (nomark _)) (ss_one (ss_ret (es_tup (as_cons (es_lst isF (as_nil)) (as_cons (es_lst isF (as_cons (es_var (pv 2)) (as_nil))) (as_nil)))))) (ss_nil))
      (ss_cons (ss_if (ts_cmp (c_eq hr.units) (es_ix (es_var (pv 1)) (es_int)) (es_int) (nomark _)) (ss_one (ss_ret (es_tup (as_cons (es_lst isF (as_cons (es_tup (as_cons (es_str) (as_cons (es_ix (es_var (pv 1)) (es_int)) (as_nil)))) (as_nil))) (as_cons (es_lst isF (as_cons (es_var (pv 2)) (as_nil))) (as_nil)))))) (ss_nil))
      (ss_cons (ss_if (ts_cmp (c_in hr.u65) (es_ix (es_var (pv 1)) (es_int)) (es_fld T.a_Taker_numbers (es_var (pv 0)))) (ss_one (ss_ret (es_tup (as_cons (es_lst isF (as_cons (es_tup (as_cons (es_str) (as_cons (es_ix (es_var (pv 1)) (es_int)) (as_nil)))) (as_nil))) (as_cons (es_lst isF (as_nil)) (as_nil)))))) (ss_nil))
      (ss_cons (ss_expr (es_bm1 m_append (es_fld T.a_Taker_numbers (es_var (pv 0))) (es_ix (es_var (pv 1)) (es_int))))
      (ss_one (ss_ret (es_tup (as_cons (es_lst isF (as_cons (es_tup (as_cons (es_str) (as_cons (es_ix (es_var (pv 1)) (es_int)) (as_nil)))) (as_nil))) (as_cons (es_lst isF (as_cons (es_var (pv 2)) (as_nil))) (as_nil))))))))))))
theorem d_law_cell (T : Txt K mg A) : Df true P w K mg base J 1 2 A.f_law_cell m_law_cell := by
  obtain ⟨fd, F, hb⟩ := T.d_law_cell
  exact df_of F sc_law_cell hb fun cdv A outer s H E hr =>
    (ss_cons (ss_if (ts_tru (es_var (pv 0))) (ss_one (ss_ret (es_ix (es_var (pv 0)) (es_mod (es_var (pv 1)) (es_b1 (b_len) rfl T.n_len (by decide +kernel) (es_var (pv 0))))))) (ss_nil))
      (ss_one (ss_ret (es_int))))
theorem d_law_good (T : Txt K mg A) : Df true P w K mg base J 1 2 A.f_law_good m_law_good := by
  obtain ⟨fd, F, hb⟩ := T.d_law_good
  exact df_of F sc_law_good hb fun cdv A outer s H E hr =>
    (ss_cons (ss_for (passes_of rfl) rfl (is_range rfl T.n_range (es_int)) (gs_name (pg_name (i := 2) sc_law_good.nd rfl (by first | exact Or.inl rfl | exact Or.inr rfl))) (ss_cons (ss_setLc (i := 3) (own := [("one", 7)]) isF rfl sc_law_good.nd rfl rfl (sw_true rfl rfl rfl (by decide +kernel)) (is_seq (es_var (pv 0))) (blkOk_by (own := [("one", 7)]) (N := ["said", "came", "grade", "mine", "its", "first", "turned", "one", "k"]) (sc := defScope s_law_good) (by decide +kernel)) (by decide) (fun _ _ _ _ _ => gs_name (pg_name (i := 7) sc_law_good.nd rfl (by first | exact Or.inl rfl | exact Or.inr rfl))) (fun _ _ _ _ _ => tts_one (ts_cmp (c_eq hr.units) (es_ix (es_var (pv 7)) (es_int)) (es_var (pv 2)) (nomark _))) (fun _ _ _ _ _ => es_var (pv 7)))
      (ss_cons (ss_asg (es_lc (own := [("one", 7)]) isF rfl sc_law_good.nd (is_seq (es_var (pv 1))) (blkOk_by (own := [("one", 7)]) (N := ["said", "came", "grade", "mine", "its", "first", "turned", "one", "k"]) (sc := defScope s_law_good) (by decide +kernel)) (by decide) (fun _ _ _ _ _ => gs_name (pg_name (i := 7) sc_law_good.nd rfl (by first | exact Or.inl rfl | exact Or.inr rfl))) (fun _ _ _ _ _ => tts_one (ts_cmp (c_eq hr.units) (es_ix (es_var (pv 7)) (es_int)) (es_var (pv 2)) (nomark _))) (fun _ _ _ _ _ => es_var (pv 7))) (gs_name (pg_name (i := 4) sc_law_good.nd rfl (by first | exact Or.inl rfl | exact Or.inr rfl))))
      (ss_cons (ss_setLc (i := 5) (own := [("k", 8)]) isF rfl sc_law_good.nd rfl rfl (sw_true rfl rfl rfl (by decide +kernel)) (is_range rfl T.n_range (es_b1 (b_len) rfl T.n_len (by decide +kernel) (es_var (pv 4)))) (blkOk_by (own := [("k", 8)]) (N := ["said", "came", "grade", "mine", "its", "first", "turned", "one", "k"]) (sc := defScope s_law_good) (by decide +kernel)) (by decide) (fun _ _ _ _ _ => gs_name (pg_name (i := 8) sc_law_good.nd rfl (by first | exact Or.inl rfl | exact Or.inr rfl))) (fun _ _ _ _ _ => tts_one (ts_cmp (c_notIn hr.u65) (es_ix (es_var (pv 4)) (es_var (pv 8))) (es_sl isF (es_var (pv 4)) (os_none) (os_some (es_var (pv 8)))))) (fun _ _ _ _ _ => es_ix (es_var (pv 4)) (es_var (pv 8))))
      (ss_cons (ss_if (ts_w (ws_or (ts_w (ws_and (ts_cmp (c_eq hr.units) (es_var (pv 2)) (es_int) (nomark _)) (ws_and1 (ts_cmp (c_ne hr.units) (es_var (pv 4)) (es_var (pv 3)) (nomark _))))) (ws_or1 (ts_w (ws_and (ts_cmp (c_eq hr.units) (es_var (pv 2)) (es_int) (nomark _)) (ws_and1 (ts_cmp (c_ne hr.units) (es_var (pv 5)) (es_var (pv 3)) (nomark _)))))))) (ss_one (ss_ret (es_bl))) (ss_nil))
      (ss_cons (ss_setLc (i := 6) (own := [("one", 7)]) isF rfl sc_law_good.nd rfl rfl (sw_true rfl rfl rfl (by decide +kernel)) (is_seq (es_var (pv 3))) (blkOk_by (own := [("one", 7)]) (N := ["said", "came", "grade", "mine", "its", "first", "turned", "one", "k"]) (sc := defScope s_law_good) (by decide +kernel)) (by decide) (fun _ _ _ _ _ => gs_name (pg_name (i := 7) sc_law_good.nd rfl (by first | exact Or.inl rfl | exact Or.inr rfl))) (fun _ _ _ _ _ => tts_one (ts_cmp (c_in hr.u65) (es_var (pv 7)) (es_var (pv 4)))) (fun _ _ _ _ _ => es_var (pv 7)))
      (ss_one (ss_if (ts_w (ws_and (ts_cmp (c_eq hr.units) (es_var (pv 2)) (es_int) (nomark _)) (ws_and1 (ts_w (ws_or (ts_cmp (c_ne hr.units) (es_var (pv 4)) (es_var (pv 5)) (nomark _)) (ws_or1 (ts_cmp (c_ne hr.units) (es_var (pv 4)) (es_var (pv 6)) (nomark _)))))))) (ss_one (ss_ret (es_bl))) (ss_nil)))))))))
      (ss_one (ss_ret (es_cmp (c_eq hr.units) (es_b1 (b_len) rfl T.n_len (by decide +kernel) (es_var (pv 1))) (es_b1 (b_len) rfl T.n_len (by decide +kernel) (es_lc (own := [("one", 7)]) isF rfl sc_law_good.nd (is_seq (es_var (pv 1))) (blkOk_by (own := [("one", 7)]) (N := ["said", "came", "grade", "mine", "its", "first", "turned", "one", "k"]) (sc := defScope s_law_good) (by decide +kernel)) (by decide) (fun _ _ _ _ _ => gs_name (pg_name (i := 7) sc_law_good.nd rfl (by first | exact Or.inl rfl | exact Or.inr rfl))) (fun _ _ _ _ _ => tts_one (ts_cmp (c_in hr.u65) (es_var (pv 7)) (es_var (pv 0)))) (fun _ _ _ _ _ => es_var (pv 7)))) (nomark _)))))
theorem d_look_name (T : Txt K mg A) : Df true P w K mg base J 2 1 A.f_look_name m_look_name := by
  obtain ⟨fd, F, hb⟩ := T.d_look_name
  exact df_of F sc_look_name hb fun cdv A outer s H E hr =>
    (ss_cons (ss_asg (es_bm1 (m_split isF) (es_var (pv 0)) (es_str)) (gs_name (pg_name (i := 1) sc_look_name.nd rfl (by first | exact Or.inl rfl | exact Or.inr rfl))))
      (ss_one (ss_if (ts_w (ws_or (ts_cmp (c_eq hr.units) (es_var (pv 0)) (es_str) (nomark _)) (ws_or (ts_cmp (c_gt) (es_b1 (b_len) rfl T.n_len (by decide +kernel) (es_var (pv 1))) (es_gint rfl T.c_MOST_LEVELS) (nomark _)) (ws_or1 (ts_not (ts_tru (es_b1 (b_all rfl) rfl T.n_all (by decide +kernel) (es_lc (own := [("level", 2)]) isF rfl sc_look_name.nd (is_seq (es_var (pv 1))) (blkOk_by (own := [("level", 2)]) (N := ["name", "levels", "level"]) (sc := defScope s_look_name) (by decide +kernel)) (by decide) (fun _ _ _ _ _ => gs_name (pg_name (i := 2) sc_look_name.nd rfl (by first | exact Or.inl rfl | exact Or.inr rfl))) (fun _ _ _ _ _ => tts_nil) (fun _ _ _ _ _ => es_call tks0 (d_is_level T) (hr.mono (by omega)) rfl T.g_is_level T.k_is_level (as_cons (es_var (pv 2)) (as_nil))))))))))) (ss_one (ss_raise (c := 3) rfl rfl ((tks_of rfl rfl rfl rfl)) PySem.F.excBase_ValueError T.x_BadName T.gc_BadName T.kc_BadName (raises_own T.b_BadName T.t_BadName) rfl)) (ss_nil))))
theorem d_Giver_init (T : Txt K mg A) : Df true P w K mg base J 2 3 A.f_Giver_init m_Giver_init := by
  obtain ⟨fd, F, hb⟩ := T.d_Giver_init
  exact df_of F sc_Giver_init hb fun cdv A outer s H E hr =>
    (ss_cons (ss_expr (es_call (tks_of rfl rfl rfl rfl) (d_look_ends T) (hr.mono (by omega)) rfl T.g_look_ends T.k_look_ends (as_cons (es_var (pv 1)) (as_cons (es_var (pv 2)) (as_nil)))))
      (ss_cons (ss_setF T.a_Giver_window (es_var (pv 0)) (es_var (pv 1)))
      (ss_cons (ss_setF T.a_Giver_most (es_var (pv 0)) (es_var (pv 2)))
      (ss_cons (ss_setF T.a_Giver_last (es_var (pv 0)) (es_int))
      (ss_cons (ss_setF T.a_Giver_waiting (es_var (pv 0)) (es_lst isM (as_nil)))
      (ss_one (ss_setF T.a_Giver_flying (es_var (pv 0)) (es_lst isM (as_nil)))))))))
theorem d_Giver_pump (T : Txt K mg A) : Df true P w K mg base J 2 1 A.f_Giver_pump m_Giver_pump := by
  obtain ⟨fd, F, hb⟩ := T.d_Giver_pump
  exact df_of F sc_Giver_pump hb fun cdv A outer s H E hr =>
    (ss_cons (ss_asg (es_lst isM (as_nil)) (gs_name (pg_name (i := 1) sc_Giver_pump.nd rfl (by first | exact Or.inl rfl | exact Or.inr rfl))))
      (ss_cons (ss_while 100000 (passes_of rfl) (ts_w (ws_and (ts_tru (es_fld T.a_Giver_waiting (es_var (pv 0)))) (ws_and1 (ts_cmp (c_lt) (es_b1 (b_len) rfl T.n_len (by decide +kernel) (es_fld T.a_Giver_flying (es_var (pv 0)))) (es_fld T.a_Giver_window (es_var (pv 0))) (nomark _))))) (ss_cons (ss_asg (es_ix (es_fld T.a_Giver_waiting (es_var (pv 0))) (es_int)) (gs_tup rfl (gss_cons (pg_name (i := 2) sc_Giver_pump.nd rfl (by first | exact Or.inl rfl | exact Or.inr rfl)) (gss_cons (pg_name (i := 3) sc_Giver_pump.nd rfl (by first | exact Or.inl rfl | exact Or.inr rfl)) (gss_cons (pg_name (i := 4) sc_Giver_pump.nd rfl (by first | exact Or.inl rfl | exact Or.inr rfl)) (gss_cons (pg_name (i := 5) sc_Giver_pump.nd rfl (by first | exact Or.inl rfl | exact Or.inr rfl)) (gss_nil)))))))
      (ss_cons (ss_setF T.a_Giver_waiting (es_var (pv 0)) (es_sl isM (es_fld T.a_Giver_waiting (es_var (pv 0))) (os_some (es_int)) (os_none)))
      (ss_cons (ss_asg (es_meth0 (tks_of rfl rfl rfl rfl) T.me_Giver_number (d_Giver_number T) (hr.mono (by omega)) (es_var (pv 0))) (gs_name (pg_name (i := 6) sc_Giver_pump.nd rfl (by first | exact Or.inl rfl | exact Or.inr rfl))))
      (ss_cons (ss_expr (es_bm1 m_append (es_fld T.a_Giver_flying (es_var (pv 0))) (es_tup (as_cons (es_var (pv 6)) (as_cons (es_var (pv 4)) (as_cons (es_tup (as_cons (es_var (pv 2)) (as_cons (es_var (pv 3)) (as_cons (es_var (pv 4)) (as_cons (es_var (pv 5)) (as_nil)))))) (as_nil)))))))
      (ss_one (ss_expr (es_bm1 m_append (es_var (pv 1)) (es_tup (as_cons (es_str) (as_cons (es_var (pv 2)) (as_cons (es_var (pv 3)) (as_cons (es_var (pv 4)) (as_cons (es_var (pv 5)) (as_cons (es_bl) (as_cons (es_var (pv 6)) (as_nil)))))))))))))))))
      (ss_one (ss_ret (es_var (pv 1))))))
theorem d_law_mix (T : Txt K mg A) : Df true P w K mg base J 2 2 A.f_law_mix m_law_mix := by
  obtain ⟨fd, F, hb⟩ := T.d_law_mix
  exact df_of F sc_law_mix hb fun cdv A outer s H E hr =>
    (ss_cons (ss_asg (es_mod (es_add isF (es_call (tks_of rfl rfl rfl rfl) (d_law_cell T) (hr.mono (by omega)) rfl T.g_law_cell T.k_law_cell (as_cons (es_var (pv 0)) (as_cons (es_var (pv 1)) (as_nil)))) (es_mul (es_int) (es_add isF (es_var (pv 1)) (es_int)))) (es_int)) (gs_name (pg_name (i := 2) sc_law_mix.nd rfl (by first | exact Or.inl rfl | exact Or.inr rfl))))
      (ss_cons (ss_asg (es_mod (es_pow (es_var (pv 2)) (es_int)) (es_int)) (gs_name (pg_name (i := 2) sc_law_mix.nd rfl (by first | exact Or.inl rfl | exact Or.inr rfl))))
      (ss_one (ss_ret (es_mod (es_add isF (es_mul (es_fdv (es_var (pv 2)) (es_int)) (es_int)) (es_var (pv 2))) (es_int))))))
theorem d_look_tiding (T : Txt K mg A) : Df true P w K mg base J 3 4 A.f_look_tiding m_look_tiding := by
  obtain ⟨fd, F, hb⟩ := T.d_look_tiding
  exact df_of F sc_look_tiding hb fun cdv A outer s H E hr =>
    (ss_cons (ss_expr (es_call (tks_of rfl rfl rfl rfl) (d_look_name T) (hr.mono (by omega)) rfl T.g_look_name T.k_look_name (as_cons (es_var (pv 0)) (as_nil))))
      (ss_cons (ss_expr (es_call (tks_of rfl rfl rfl rfl) (d_look_grade T) (hr.mono (by omega)) rfl T.g_look_grade T.k_look_grade (as_cons (es_var (pv 2)) (as_nil))))
      (ss_one (ss_expr (es_call (tks_of rfl rfl rfl rfl) (d_must T) (hr.mono (by omega)) rfl T.g_must T.k_must (as_cons (es_and (es_call (tks_of rfl rfl rfl rfl) (d_is_body T) (hr.mono (by omega)) rfl T.g_is_body T.k_is_body (as_cons (es_var (pv 1)) (as_nil))) (es_one (es_cmp (c_in hr.u65) (es_var (pv 3)) (es_tup (as_cons (es_bl) (as_cons (es_bl) (as_nil))))))) (as_nil)))))))
theorem d_Giver_took (T : Txt K mg A) : Df true P w K mg base J 3 2 A.f_Giver_took m_Giver_took := by
  obtain ⟨fd, F, hb⟩ := T.d_Giver_took
  exact df_of F sc_Giver_took hb fun cdv A outer s H E hr =>
    (ss_cons (ss_asg (es_var (pv 1)) (gs_tup rfl (gss_cons (pg_name (i := 2) sc_Giver_took.nd rfl (by first | exact Or.inl rfl | exact Or.inr rfl)) (gss_cons (pg_name (i := 3) sc_Giver_took.nd rfl (by first | exact Or.inl rfl | exact Or.inr rfl)) (gss_nil)))))
      (ss_cons (ss_if (ts_cmp (c_eq hr.units) (es_var (pv 2)) (es_str) (nomark _)) (ss_cons (ss_asg (es_meth (tks_of rfl rfl rfl rfl) T.me_Giver_place_of (d_Giver_place_of T) (hr.mono (by omega)) (es_var (pv 0)) (as_cons (es_var (pv 3)) (as_cons (es_int) (as_nil)))) (gs_name (pg_name (i := 4) sc_Giver_took.nd rfl (by first | exact Or.inl rfl | exact Or.inr rfl))))
      (ss_cons (ss_if (ts_notN (es_var (pv 4))) (ss_one (ss_setI (es_fld T.a_Giver_flying (es_var (pv 0))) (es_var (pv 4)) (es_tup (as_cons (es_var (pv 3)) (as_cons (es_int) (as_cons (es_non) (as_nil))))))) (ss_nil))
      (ss_one (ss_ret (es_if (ts_w (ws_or (ts_notN (es_var (pv 4))) (ws_or1 (ts_notN (es_meth (tks_of rfl rfl rfl rfl) T.me_Giver_place_of (d_Giver_place_of T) (hr.mono (by omega)) (es_var (pv 0)) (as_cons (es_var (pv 3)) (as_cons (es_int) (as_nil)))))))) (es_lst isF (as_cons (es_tup (as_cons (es_str) (as_cons (es_var (pv 3)) (as_nil)))) (as_nil))) (es_lst isF (as_nil))))))) (ss_nil))
      (ss_cons (ss_asg (es_meth (tks_of rfl rfl rfl rfl) T.me_Giver_place_of (d_Giver_place_of T) (hr.mono (by omega)) (es_var (pv 0)) (as_cons (es_var (pv 3)) (as_cons (es_if (ts_cmp (c_eq hr.units) (es_var (pv 2)) (es_str) (nomark _)) (es_int) (es_int)) (as_nil)))) (gs_name (pg_name (i := 4) sc_Giver_took.nd rfl (by first | exact Or.inl rfl | exact Or.inr rfl))))
      (ss_cons (ss_if (ts_isN (es_var (pv 4))) (ss_one (ss_ret (es_lst isF (as_nil)))) (ss_nil))
      (ss_cons (ss_setF T.a_Giver_flying (es_var (pv 0)) (es_add isM (es_sl isF (es_fld T.a_Giver_flying (es_var (pv 0))) (os_none) (os_some (es_var (pv 4)))) (es_sl isF (es_fld T.a_Giver_flying (es_var (pv 0))) (os_some (es_add isF (es_var (pv 4)) (es_int))) (os_none))))
      (ss_one (ss_ret (es_meth0 (tks_of rfl rfl rfl rfl) T.me_Giver_pump (d_Giver_pump T) (hr.mono (by omega)) (es_var (pv 0))))))))))
theorem d_Giver_again (T : Txt K mg A) : Df true P w K mg base J 3 1 A.f_Giver_again m_Giver_again := by
  obtain ⟨fd, F, hb⟩ := T.d_Giver_again
  exact df_of F sc_Giver_again hb fun cdv A outer s H E hr =>
    (ss_cons (ss_asg (es_lst isM (as_nil)) (gs_name (pg_name (i := 1) sc_Giver_again.nd rfl (by first | exact Or.inl rfl | exact Or.inr rfl))))
      (ss_cons (ss_for (passes_of rfl) rfl (is_seq (es_fld T.a_Giver_flying (es_var (pv 0)))) (gs_tup rfl (gss_cons (pg_name (i := 2) sc_Giver_again.nd rfl (by first | exact Or.inl rfl | exact Or.inr rfl)) (gss_cons (pg_name (i := 3) sc_Giver_again.nd rfl (by first | exact Or.inl rfl | exact Or.inr rfl)) (gss_cons (pg_name (i := 4) sc_Giver_again.nd rfl (by first | exact Or.inl rfl | exact Or.inr rfl)) (gss_nil))))) (ss_one (ss_if (ts_isN (es_var (pv 4))) (ss_one (ss_expr (es_bm1 m_append (es_var (pv 1)) (es_tup (as_cons (es_str) (as_cons (es_var (pv 2)) (as_nil))))))) (ss_one (ss_expr (es_bm1 m_append (es_var (pv 1)) (es_add isF (es_add isF (es_tup (as_cons (es_str) (as_nil))) (es_var (pv 4))) (es_tup (as_cons (es_bl) (as_cons (es_var (pv 2)) (as_nil)))))))))))
      (ss_one (ss_ret (es_add isM (es_var (pv 1)) (es_meth0 (tks_of rfl rfl rfl rfl) T.me_Giver_pump (d_Giver_pump T) (hr.mono (by omega)) (es_var (pv 0))))))))
theorem d_law_draw (T : Txt K mg A) : Df true P w K mg base J 3 3 A.f_law_draw m_law_draw := by
  obtain ⟨fd, F, hb⟩ := T.d_law_draw
  exact df_of F sc_law_draw hb fun cdv A outer s H E hr =>
    (ss_cons (ss_expr (es_bm1 m_append (es_var (pv 1)) (es_int)))
      (ss_one (ss_ret (es_mod (es_fdv (es_call (tks_of rfl rfl rfl rfl) (d_law_mix T) (hr.mono (by omega)) rfl T.g_law_mix T.k_law_mix (as_cons (es_var (pv 0)) (as_cons (es_b1 (b_len) rfl T.n_len (by decide +kernel) (es_var (pv 1))) (as_nil)))) (es_int)) (es_var (pv 2))))))
theorem d_Giver_keep (T : Txt K mg A) : Df true P w K mg base J 4 5 A.f_Giver_keep m_Giver_keep := by
  obtain ⟨fd, F, hb⟩ := T.d_Giver_keep
  exact df_of F sc_Giver_keep hb fun cdv A outer s H E hr =>
    (ss_cons (ss_expr (es_call (tks_of rfl rfl rfl rfl) (d_look_tiding T) (hr.mono (by omega)) rfl T.g_look_tiding T.k_look_tiding (as_cons (es_var (pv 1)) (as_cons (es_var (pv 2)) (as_cons (es_var (pv 3)) (as_cons (es_var (pv 4)) (as_nil)))))))
      (ss_one (ss_if (ts_cmp (c_gt) (es_var (pv 3)) (es_int) (nomark _)) (ss_one (ss_expr (es_bm1 m_append (es_fld T.a_Giver_waiting (es_var (pv 0))) (es_tup (as_cons (es_var (pv 1)) (as_cons (es_var (pv 2)) (as_cons (es_var (pv 3)) (as_cons (es_var (pv 4)) (as_nil))))))))) (ss_nil))))
theorem d_law_carried (T : Txt K mg A) : Df true P w K mg base J 4 5 A.f_law_carried m_law_carried := by
  obtain ⟨fd, F, hb⟩ := T.d_law_carried
  exact df_of F sc_law_carried hb fun cdv A outer s H E hr =>
    (ss_one (ss_if (ts_tru (es_var (pv 2))) (ss_cons (ss_asg (es_meth (tks_of rfl rfl rfl rfl) T.me_Taker_took (d_Taker_took T) (hr.mono (by omega)) (es_var (pv 1)) (as_cons (es_bm1 m_popAt (es_var (pv 2)) (es_int)) (as_nil))) (gs_tup rfl (gss_cons (pg_name (i := 5) sc_law_carried.nd rfl (by first | exact Or.inl rfl | exact Or.inr rfl)) (gss_cons (pg_name (i := 6) sc_law_carried.nd rfl (by first | exact Or.inl rfl | exact Or.inr rfl)) (gss_nil)))))
      (ss_cons (ss_expr (es_bm1 m_extend (es_var (pv 3)) (es_var (pv 5))))
      (ss_one (ss_expr (es_bm1 m_extend (es_var (pv 4)) (es_var (pv 6))))))) (ss_one (ss_if (ts_tru (es_var (pv 3))) (ss_one (ss_expr (es_bm1 m_extend (es_var (pv 2)) (es_meth (tks_of rfl rfl rfl rfl) T.me_Giver_took (d_Giver_took T) (hr.mono (by omega)) (es_var (pv 0)) (as_cons (es_bm1 m_popAt (es_var (pv 3)) (es_int)) (as_nil)))))) (ss_nil)))))
theorem d_Giver_say (T : Txt K mg A) : Df true P w K mg base J 5 5 A.f_Giver_say m_Giver_say := by
  obtain ⟨fd, F, hb⟩ := T.d_Giver_say
  exact df_of F sc_Giver_say hb fun cdv A outer s H E hr =>
    (ss_cons (ss_expr (es_call (tks_of rfl rfl rfl rfl) (d_look_tiding T) (hr.mono (by omega)) rfl T.g_look_tiding T.k_look_tiding (as_cons (es_var (pv 1)) (as_cons (es_var (pv 2)) (as_cons (es_var (pv 3)) (as_cons (es_var (pv 4)) (as_nil)))))))
      (ss_cons (ss_if (ts_cmp (c_eq hr.units) (es_var (pv 3)) (es_int) (nomark _)) (ss_one (ss_ret (es_lst isF (as_cons (es_tup (as_cons (es_str) (as_cons (es_var (pv 1)) (as_cons (es_var (pv 2)) (as_cons (es_int) (as_cons (es_var (pv 4)) (as_cons (es_bl) (as_cons (es_int) (as_nil))))))))) (as_nil))))) (ss_nil))
      (ss_cons (ss_expr (es_meth (tks_of rfl rfl rfl rfl) T.me_Giver_keep (d_Giver_keep T) (hr.mono (by omega)) (es_var (pv 0)) (as_cons (es_var (pv 1)) (as_cons (es_var (pv 2)) (as_cons (es_var (pv 3)) (as_cons (es_var (pv 4)) (as_nil)))))))
      (ss_one (ss_ret (es_meth0 (tks_of rfl rfl rfl rfl) T.me_Giver_pump (d_Giver_pump T) (hr.mono (by omega)) (es_var (pv 0))))))))
theorem fn_law {fd : FuncData} (T : Txt K mg A) (F : Fun K "law" "law" s_law A.f_law fd) : FnOk P w K mg base (cxt true P w) 6 A.f_law fd ["script"] (spD ⟨K, mg, J⟩ 1 m_law) :=
  fn_of_body F sc_law rfl rfl fun cdv A outer s H E hr =>
    (ss_cons (ss_asg (es_lst isM (as_nil)) (gs_name (pg_name (i := 1) sc_law.nd rfl (by first | exact Or.inl rfl | exact Or.inr rfl))))
      (ss_cons (ss_asg (es_add isF (es_int) (es_call (tks_of rfl rfl rfl rfl) (d_law_draw T) (hr.mono (by omega)) rfl T.g_law_draw T.k_law_draw (as_cons (es_var (pv 0)) (as_cons (es_var (pv 1)) (as_cons (es_int) (as_nil)))))) (gs_name (pg_name (i := 2) sc_law.nd rfl (by first | exact Or.inl rfl | exact Or.inr rfl))))
      (ss_cons (ss_asg (es_make (tks_of rfl rfl rfl rfl) T.mk_Giver (d_Giver_init T) (hr.mono (by omega)) (m_Giver_init_non) rfl rfl (as_cons (es_var (pv 2)) (as_cons (es_add isF (es_var (pv 2)) (es_call (tks_of rfl rfl rfl rfl) (d_law_draw T) (hr.mono (by omega)) rfl T.g_law_draw T.k_law_draw (as_cons (es_var (pv 0)) (as_cons (es_var (pv 1)) (as_cons (es_int) (as_nil)))))) (as_nil)))) (gs_name (pg_name (i := 3) sc_law.nd rfl (by first | exact Or.inl rfl | exact Or.inr rfl))))
      (ss_cons (ss_asg (es_make0 (tks_of rfl rfl rfl rfl) T.mk_Taker (d_Taker_init T) (hr.mono (by omega)) (m_Taker_init_non) rfl rfl) (gs_name (pg_name (i := 4) sc_law.nd rfl (by first | exact Or.inl rfl | exact Or.inr rfl))))
      (ss_cons (ss_asg (es_lst isM (as_nil)) (gs_name (pg_name (i := 5) sc_law.nd rfl (by first | exact Or.inl rfl | exact Or.inr rfl))))
      (ss_cons (ss_asg (es_lst isM (as_nil)) (gs_name (pg_name (i := 6) sc_law.nd rfl (by first | exact Or.inl rfl | exact Or.inr rfl))))
      (ss_cons (ss_asg (es_lst isM (as_nil)) (gs_name (pg_name (i := 7) sc_law.nd rfl (by first | exact Or.inl rfl | exact Or.inr rfl))))
      (ss_cons (ss_asg (es_lst isM (as_nil)) (gs_name (pg_name (i := 8) sc_law.nd rfl (by first | exact Or.inl rfl | exact Or.inr rfl))))
      (ss_cons (ss_for (passes_of rfl) rfl (is_range rfl T.n_range (es_call (tks_of rfl rfl rfl rfl) (d_law_draw T) (hr.mono (by omega)) rfl T.g_law_draw T.k_law_draw (as_cons (es_var (pv 0)) (as_cons (es_var (pv 1)) (as_cons (es_int) (as_nil)))))) (gs_name (pg_name (i := 9) sc_law.nd rfl (by first | exact Or.inl rfl | exact Or.inr rfl))) (ss_cons (ss_asg (es_call (tks_of rfl rfl rfl rfl) (d_law_draw T) (hr.mono (by omega)) rfl T.g_law_draw T.k_law_draw (as_cons (es_var (pv 0)) (as_cons (es_var (pv 1)) (as_cons (es_int) (as_nil))))) (gs_name (pg_name (i := 10) sc_law.nd rfl (by first | exact Or.inl rfl | exact Or.inr rfl))))
      (ss_cons (ss_if (ts_w (ws_and (ts_cmp (c_lt) (es_var (pv 10)) (es_int) (nomark _)) (ws_and1 (ts_cmp (c_lt) (es_b1 (b_len) rfl T.n_len (by decide +kernel) (es_var (pv 7))) (es_int) (nomark _))))) (ss_cons (ss_expr (es_bm1 m_append (es_var (pv 7)) (es_tup (as_cons (es_str) (as_cons (es_add isF (es_str) (es_y1 (b_str) rfl T.n_str (by decide +kernel) (es_b1 (b_len) rfl T.n_len (by decide +kernel) (es_var (pv 7))))) (as_cons (es_call (tks_of rfl rfl rfl rfl) (d_law_draw T) (hr.mono (by omega)) rfl T.g_law_draw T.k_law_draw (as_cons (es_var (pv 0)) (as_cons (es_var (pv 1)) (as_cons (es_int) (as_nil))))) (as_cons (es_cmp (c_eq hr.units) (es_var (pv 10)) (es_int) (nomark _)) (as_nil))))))))
      (ss_one (ss_expr (es_bm1 m_extend (es_var (pv 5)) (es_meth (tks_of rfl rfl rfl rfl) T.me_Giver_say (d_Giver_say T) (hr.mono (by omega)) (es_var (pv 3)) (as_cons (es_ix (es_ix (es_var (pv 7)) (es_neg (es_int))) (es_int)) (as_cons (es_ix (es_ix (es_var (pv 7)) (es_neg (es_int))) (es_int)) (as_cons (es_ix (es_ix (es_var (pv 7)) (es_neg (es_int))) (es_int)) (as_cons (es_ix (es_ix (es_var (pv 7)) (es_neg (es_int))) (es_int)) (as_nil)))))))))) (ss_one (ss_if (ts_cmp (c_lt) (es_var (pv 10)) (es_int) (nomark _)) (ss_one (ss_expr (es_call (tks_of rfl rfl rfl rfl) (d_law_carried T) (hr.mono (by omega)) rfl T.g_law_carried T.k_law_carried (as_cons (es_var (pv 3)) (as_cons (es_var (pv 4)) (as_cons (es_var (pv 5)) (as_cons (es_var (pv 6)) (as_cons (es_var (pv 8)) (as_nil))))))))) (ss_one (ss_if (ts_w (ws_and (ts_cmp (c_lt) (es_var (pv 10)) (es_int) (nomark _)) (ws_and1 (ts_tru (es_var (pv 6)))))) (ss_one (ss_expr (es_bm1 m_extend (es_var (pv 5)) (es_meth (tks_of rfl rfl rfl rfl) T.me_Giver_took (d_Giver_took T) (hr.mono (by omega)) (es_var (pv 3)) (as_cons (es_bm1 m_popAt (es_var (pv 6)) (es_int)) (as_nil)))))) (ss_one (ss_if (ts_cmp (c_eq hr.units) (es_var (pv 10)) (es_int) (nomark _)) (ss_cons (ss_asg (es_lst isM (as_nil)) (gs_name (pg_name (i := 5) sc_law.nd rfl (by first | exact Or.inl rfl | exact Or.inr rfl))))
      (ss_cons (ss_asg (es_lst isM (as_nil)) (gs_name (pg_name (i := 6) sc_law.nd rfl (by first | exact Or.inl rfl | exact Or.inr rfl))))
      (ss_one (ss_expr (es_bm1 m_extend (es_var (pv 5)) (es_meth0 (tks_of rfl rfl rfl rfl) T.me_Giver_again (d_Giver_again T) (hr.mono (by omega)) (es_var (pv 3)))))))) (ss_nil))))))))
      (ss_one (ss_if (ts_cmp (c_gt) (es_ix (es_meth0 (tks_of rfl rfl rfl rfl) T.me_Giver_many (d_Giver_many T) (hr.mono (by omega)) (es_var (pv 3))) (es_int)) (es_var (pv 2)) (nomark _)) (ss_one (ss_ret (es_bl))) (ss_nil))))))
      (ss_cons (ss_asg (es_meth0 (tks_of rfl rfl rfl rfl) T.me_Giver_again (d_Giver_again T) (hr.mono (by omega)) (es_var (pv 3))) (gs_name (pg_name (i := 5) sc_law.nd rfl (by first | exact Or.inl rfl | exact Or.inr rfl))))
      (ss_cons (ss_asg (es_lst isM (as_nil)) (gs_name (pg_name (i := 6) sc_law.nd rfl (by first | exact Or.inl rfl | exact Or.inr rfl))))
      (ss_cons (ss_for (passes_of rfl) rfl (is_range rfl T.n_range (es_int)) (gs_name (pg_name (i := 9) sc_law.nd rfl (by first | exact Or.inl rfl | exact Or.inr rfl))) (ss_one (ss_expr (es_call (tks_of rfl rfl rfl rfl) (d_law_carried T) (hr.mono (by omega)) rfl T.g_law_carried T.k_law_carried (as_cons (es_var (pv 3)) (as_cons (es_var (pv 4)) (as_cons (es_var (pv 5)) (as_cons (es_var (pv 6)) (as_cons (es_var (pv 8)) (as_nil))))))))))
      (ss_one (ss_ret (es_and (es_cmp (c_eq hr.units) (es_add isF (es_var (pv 5)) (es_var (pv 6))) (es_lst isF (as_nil)) (nomark _)) (es_and (es_cmp (c_eq hr.units) (es_meth0 (tks_of rfl rfl rfl rfl) T.me_Giver_many (d_Giver_many T) (hr.mono (by omega)) (es_var (pv 3))) (es_tup (as_cons (es_int) (as_cons (es_int) (as_nil)))) (nomark _)) (es_one (es_call (tks_of rfl rfl rfl rfl) (d_law_good T) (hr.mono (by omega)) rfl T.g_law_good T.k_law_good (as_cons (es_var (pv 7)) (as_cons (es_var (pv 8)) (as_nil)))))))))))))))))))))
end
theorem all_mk {l : PySem.W.OpenLaw} {w : World} {K : PySem.W.Frag} {h : Heap} {mg : Str → Option Value} {fa : Addr} (X : K.In h) (G : h.Ns mainGlobals mg) (hfa : mg "law" = some (.ref fa))
    {C_Giver : Addr}
    {C_Taker : Addr}
    {C_TidingError : Addr}
    {C_BadName : Addr}
    {C_BadPacket : Addr}
    {C_BadLine : Addr}
    {f_is_level : Addr} {od_is_level an_is_level : Option Addr} {sl_is_level : Array (Option Value)} {oc_is_level kV_is_level dc_is_level pm_is_level cd_is_level ct_is_level : Value}
    {f_look_grade : Addr} {od_look_grade an_look_grade : Option Addr} {sl_look_grade : Array (Option Value)} {oc_look_grade kV_look_grade dc_look_grade pm_look_grade cd_look_grade ct_look_grade : Value}
    {f_must : Addr} {od_must an_must : Option Addr} {sl_must : Array (Option Value)} {oc_must kV_must dc_must pm_must cd_must ct_must : Value}
    {f_is_body : Addr} {od_is_body an_is_body : Option Addr} {sl_is_body : Array (Option Value)} {oc_is_body kV_is_body dc_is_body pm_is_body cd_is_body ct_is_body : Value}
    {f_look_ends : Addr} {od_look_ends an_look_ends : Option Addr} {sl_look_ends : Array (Option Value)} {oc_look_ends kV_look_ends dc_look_ends pm_look_ends cd_look_ends ct_look_ends : Value}
    {f_Giver_number : Addr} {od_Giver_number an_Giver_number : Option Addr} {sl_Giver_number : Array (Option Value)} {oc_Giver_number kV_Giver_number dc_Giver_number pm_Giver_number cd_Giver_number ct_Giver_number : Value}
    {f_Giver_place_of : Addr} {od_Giver_place_of an_Giver_place_of : Option Addr} {sl_Giver_place_of : Array (Option Value)} {oc_Giver_place_of kV_Giver_place_of dc_Giver_place_of pm_Giver_place_of cd_Giver_place_of ct_Giver_place_of : Value}
    {f_Giver_many : Addr} {od_Giver_many an_Giver_many : Option Addr} {sl_Giver_many : Array (Option Value)} {oc_Giver_many kV_Giver_many dc_Giver_many pm_Giver_many cd_Giver_many ct_Giver_many : Value}
    {f_Taker_init : Addr} {od_Taker_init an_Taker_init : Option Addr} {sl_Taker_init : Array (Option Value)} {oc_Taker_init kV_Taker_init dc_Taker_init pm_Taker_init cd_Taker_init ct_Taker_init : Value}
    {f_Taker_took : Addr} {od_Taker_took an_Taker_took : Option Addr} {sl_Taker_took : Array (Option Value)} {oc_Taker_took kV_Taker_took dc_Taker_took pm_Taker_took cd_Taker_took ct_Taker_took : Value}
    {f_law_cell : Addr} {od_law_cell an_law_cell : Option Addr} {sl_law_cell : Array (Option Value)} {oc_law_cell kV_law_cell dc_law_cell pm_law_cell cd_law_cell ct_law_cell : Value}
    {f_law_good : Addr} {od_law_good an_law_good : Option Addr} {sl_law_good : Array (Option Value)} {oc_law_good kV_law_good dc_law_good pm_law_good cd_law_good ct_law_good : Value}
    {f_look_name : Addr} {od_look_name an_look_name : Option Addr} {sl_look_name : Array (Option Value)} {oc_look_name kV_look_name dc_look_name pm_look_name cd_look_name ct_look_name : Value}
    {f_Giver_init : Addr} {od_Giver_init an_Giver_init : Option Addr} {sl_Giver_init : Array (Option Value)} {oc_Giver_init kV_Giver_init dc_Giver_init pm_Giver_init cd_Giver_init ct_Giver_init : Value}
    {f_Giver_pump : Addr} {od_Giver_pump an_Giver_pump : Option Addr} {sl_Giver_pump : Array (Option Value)} {oc_Giver_pump kV_Giver_pump dc_Giver_pump pm_Giver_pump cd_Giver_pump ct_Giver_pump : Value}
    {f_law_mix : Addr} {od_law_mix an_law_mix : Option Addr} {sl_law_mix : Array (Option Value)} {oc_law_mix kV_law_mix dc_law_mix pm_law_mix cd_law_mix ct_law_mix : Value}
    {f_look_tiding : Addr} {od_look_tiding an_look_tiding : Option Addr} {sl_look_tiding : Array (Option Value)} {oc_look_tiding kV_look_tiding dc_look_tiding pm_look_tiding cd_look_tiding ct_look_tiding : Value}
    {f_Giver_took : Addr} {od_Giver_took an_Giver_took : Option Addr} {sl_Giver_took : Array (Option Value)} {oc_Giver_took kV_Giver_took dc_Giver_took pm_Giver_took cd_Giver_took ct_Giver_took : Value}
    {f_Giver_again : Addr} {od_Giver_again an_Giver_again : Option Addr} {sl_Giver_again : Array (Option Value)} {oc_Giver_again kV_Giver_again dc_Giver_again pm_Giver_again cd_Giver_again ct_Giver_again : Value}
    {f_law_draw : Addr} {od_law_draw an_law_draw : Option Addr} {sl_law_draw : Array (Option Value)} {oc_law_draw kV_law_draw dc_law_draw pm_law_draw cd_law_draw ct_law_draw : Value}
    {f_Giver_keep : Addr} {od_Giver_keep an_Giver_keep : Option Addr} {sl_Giver_keep : Array (Option Value)} {oc_Giver_keep kV_Giver_keep dc_Giver_keep pm_Giver_keep cd_Giver_keep ct_Giver_keep : Value}
    {f_law_carried : Addr} {od_law_carried an_law_carried : Option Addr} {sl_law_carried : Array (Option Value)} {oc_law_carried kV_law_carried dc_law_carried pm_law_carried cd_law_carried ct_law_carried : Value}
    {f_Giver_say : Addr} {od_Giver_say an_Giver_say : Option Addr} {sl_Giver_say : Array (Option Value)} {oc_Giver_say kV_Giver_say dc_Giver_say pm_Giver_say cd_Giver_say ct_Giver_say : Value}
    {f_law : Addr} {od_law an_law : Option Addr} {sl_law : Array (Option Value)} {oc_law kV_law dc_law pm_law cd_law ct_law : Value}
    {t_MOST_LEVELS : Tok}
    {t_MOST_SIGNS : Tok}
    {t_MOST_BODY : Tok}
    {t_MOST_ID : Tok}
    {t_MOST_WINDOW : Tok}
    (aC_Giver : PySem.W.nsIn K mainGlobals "Giver" = some (some (.ref C_Giver)))
    (kC_Giver : PySem.W.keepIn K (.ref C_Giver) = true)
    (aC_Taker : PySem.W.nsIn K mainGlobals "Taker" = some (some (.ref C_Taker)))
    (kC_Taker : PySem.W.keepIn K (.ref C_Taker) = true)
    (aC_TidingError : PySem.W.nsIn K mainGlobals "TidingError" = some (some (.ref C_TidingError)))
    (kC_TidingError : PySem.W.keepIn K (.ref C_TidingError) = true)
    (aC_BadName : PySem.W.nsIn K mainGlobals "BadName" = some (some (.ref C_BadName)))
    (kC_BadName : PySem.W.keepIn K (.ref C_BadName) = true)
    (aC_BadPacket : PySem.W.nsIn K mainGlobals "BadPacket" = some (some (.ref C_BadPacket)))
    (kC_BadPacket : PySem.W.keepIn K (.ref C_BadPacket) = true)
    (aC_BadLine : PySem.W.nsIn K mainGlobals "BadLine" = some (some (.ref C_BadLine)))
    (kC_BadLine : PySem.W.keepIn K (.ref C_BadLine) = true)
    (a_is_level : PySem.W.nsIn K mainGlobals "is_level" = some (some (.ref f_is_level)))
    (l_is_level : K.lookup f_is_level = some ⟨oc_is_level, od_is_level, .func (PySem.W.fnOf "is_level" "is_level" (defArgs s_is_level) (defBody s_is_level) (defScope s_is_level) .none kV_is_level dc_is_level pm_is_level an_is_level cd_is_level ct_is_level), sl_is_level⟩)
    (c_is_level : PySem.W.codeIn K cd_is_level "is_level" = true)
    (k_is_level : PySem.W.keepIn K (.ref f_is_level) = true)
    (a_look_grade : PySem.W.nsIn K mainGlobals "look_grade" = some (some (.ref f_look_grade)))
    (l_look_grade : K.lookup f_look_grade = some ⟨oc_look_grade, od_look_grade, .func (PySem.W.fnOf "look_grade" "look_grade" (defArgs s_look_grade) (defBody s_look_grade) (defScope s_look_grade) .none kV_look_grade dc_look_grade pm_look_grade an_look_grade cd_look_grade ct_look_grade), sl_look_grade⟩)
    (c_look_grade : PySem.W.codeIn K cd_look_grade "look_grade" = true)
    (k_look_grade : PySem.W.keepIn K (.ref f_look_grade) = true)
    (a_must : PySem.W.nsIn K mainGlobals "must" = some (some (.ref f_must)))
    (l_must : K.lookup f_must = some ⟨oc_must, od_must, .func (PySem.W.fnOf "must" "must" (defArgs s_must) (defBody s_must) (defScope s_must) .none kV_must dc_must pm_must an_must cd_must ct_must), sl_must⟩)
    (c_must : PySem.W.codeIn K cd_must "must" = true)
    (k_must : PySem.W.keepIn K (.ref f_must) = true)
    (a_is_body : PySem.W.nsIn K mainGlobals "is_body" = some (some (.ref f_is_body)))
    (l_is_body : K.lookup f_is_body = some ⟨oc_is_body, od_is_body, .func (PySem.W.fnOf "is_body" "is_body" (defArgs s_is_body) (defBody s_is_body) (defScope s_is_body) .none kV_is_body dc_is_body pm_is_body an_is_body cd_is_body ct_is_body), sl_is_body⟩)
    (c_is_body : PySem.W.codeIn K cd_is_body "is_body" = true)
    (k_is_body : PySem.W.keepIn K (.ref f_is_body) = true)
    (a_look_ends : PySem.W.nsIn K mainGlobals "look_ends" = some (some (.ref f_look_ends)))
    (l_look_ends : K.lookup f_look_ends = some ⟨oc_look_ends, od_look_ends, .func (PySem.W.fnOf "look_ends" "look_ends" (defArgs s_look_ends) (defBody s_look_ends) (defScope s_look_ends) .none kV_look_ends dc_look_ends pm_look_ends an_look_ends cd_look_ends ct_look_ends), sl_look_ends⟩)
    (c_look_ends : PySem.W.codeIn K cd_look_ends "look_ends" = true)
    (k_look_ends : PySem.W.keepIn K (.ref f_look_ends) = true)
    (a_Giver_number : PySem.W.findIn K (.ref C_Giver) "number" = some (some (.ref f_Giver_number)))
    (i_Giver_number : PySem.W.isFn K (.ref f_Giver_number) = true)
    (l_Giver_number : K.lookup f_Giver_number = some ⟨oc_Giver_number, od_Giver_number, .func (PySem.W.fnOf "number" "Giver.number" (defArgs s_Giver_number) (defBody s_Giver_number) (defScope s_Giver_number) .none kV_Giver_number dc_Giver_number pm_Giver_number an_Giver_number cd_Giver_number ct_Giver_number), sl_Giver_number⟩)
    (c_Giver_number : PySem.W.codeIn K cd_Giver_number "Giver.number" = true)
    (k_Giver_number : PySem.W.keepIn K (.ref f_Giver_number) = true)
    (a_Giver_place_of : PySem.W.findIn K (.ref C_Giver) "place_of" = some (some (.ref f_Giver_place_of)))
    (i_Giver_place_of : PySem.W.isFn K (.ref f_Giver_place_of) = true)
    (l_Giver_place_of : K.lookup f_Giver_place_of = some ⟨oc_Giver_place_of, od_Giver_place_of, .func (PySem.W.fnOf "place_of" "Giver.place_of" (defArgs s_Giver_place_of) (defBody s_Giver_place_of) (defScope s_Giver_place_of) .none kV_Giver_place_of dc_Giver_place_of pm_Giver_place_of an_Giver_place_of cd_Giver_place_of ct_Giver_place_of), sl_Giver_place_of⟩)
    (c_Giver_place_of : PySem.W.codeIn K cd_Giver_place_of "Giver.place_of" = true)
    (k_Giver_place_of : PySem.W.keepIn K (.ref f_Giver_place_of) = true)
    (a_Giver_many : PySem.W.findIn K (.ref C_Giver) "many" = some (some (.ref f_Giver_many)))
    (i_Giver_many : PySem.W.isFn K (.ref f_Giver_many) = true)
    (l_Giver_many : K.lookup f_Giver_many = some ⟨oc_Giver_many, od_Giver_many, .func (PySem.W.fnOf "many" "Giver.many" (defArgs s_Giver_many) (defBody s_Giver_many) (defScope s_Giver_many) .none kV_Giver_many dc_Giver_many pm_Giver_many an_Giver_many cd_Giver_many ct_Giver_many), sl_Giver_many⟩)
    (c_Giver_many : PySem.W.codeIn K cd_Giver_many "Giver.many" = true)
    (k_Giver_many : PySem.W.keepIn K (.ref f_Giver_many) = true)
    (a_Taker_init : PySem.W.findIn K (.ref C_Taker) "__init__" = some (some (.ref f_Taker_init)))
    (i_Taker_init : PySem.W.isFn K (.ref f_Taker_init) = true)
    (l_Taker_init : K.lookup f_Taker_init = some ⟨oc_Taker_init, od_Taker_init, .func (PySem.W.fnOf "__init__" "Taker.__init__" (defArgs s_Taker_init) (defBody s_Taker_init) (defScope s_Taker_init) .none kV_Taker_init dc_Taker_init pm_Taker_init an_Taker_init cd_Taker_init ct_Taker_init), sl_Taker_init⟩)
    (c_Taker_init : PySem.W.codeIn K cd_Taker_init "Taker.__init__" = true)
    (k_Taker_init : PySem.W.keepIn K (.ref f_Taker_init) = true)
    (a_Taker_took : PySem.W.findIn K (.ref C_Taker) "took" = some (some (.ref f_Taker_took)))
    (i_Taker_took : PySem.W.isFn K (.ref f_Taker_took) = true)
    (l_Taker_took : K.lookup f_Taker_took = some ⟨oc_Taker_took, od_Taker_took, .func (PySem.W.fnOf "took" "Taker.took" (defArgs s_Taker_took) (defBody s_Taker_took) (defScope s_Taker_took) .none kV_Taker_took dc_Taker_took pm_Taker_took an_Taker_took cd_Taker_took ct_Taker_took), sl_Taker_took⟩)
    (c_Taker_took : PySem.W.codeIn K cd_Taker_took "Taker.took" = true)
    (k_Taker_took : PySem.W.keepIn K (.ref f_Taker_took) = true)
    (a_law_cell : PySem.W.nsIn K mainGlobals "_law_cell" = some (some (.ref f_law_cell)))
    (l_law_cell : K.lookup f_law_cell = some ⟨oc_law_cell, od_law_cell, .func (PySem.W.fnOf "_law_cell" "_law_cell" (defArgs s_law_cell) (defBody s_law_cell) (defScope s_law_cell) .none kV_law_cell dc_law_cell pm_law_cell an_law_cell cd_law_cell ct_law_cell), sl_law_cell⟩)
    (c_law_cell : PySem.W.codeIn K cd_law_cell "_law_cell" = true)
    (k_law_cell : PySem.W.keepIn K (.ref f_law_cell) = true)
    (a_law_good : PySem.W.nsIn K mainGlobals "_law_good" = some (some (.ref f_law_good)))
    (l_law_good : K.lookup f_law_good = some ⟨oc_law_good, od_law_good, .func (PySem.W.fnOf "_law_good" "_law_good" (defArgs s_law_good) (defBody s_law_good) (defScope s_law_good) .none kV_law_good dc_law_good pm_law_good an_law_good cd_law_good ct_law_good), sl_law_good⟩)
    (c_law_good : PySem.W.codeIn K cd_law_good "_law_good" = true)
    (k_law_good : PySem.W.keepIn K (.ref f_law_good) = true)
    (a_look_name : PySem.W.nsIn K mainGlobals "look_name" = some (some (.ref f_look_name)))
    (l_look_name : K.lookup f_look_name = some ⟨oc_look_name, od_look_name, .func (PySem.W.fnOf "look_name" "look_name" (defArgs s_look_name) (defBody s_look_name) (defScope s_look_name) .none kV_look_name dc_look_name pm_look_name an_look_name cd_look_name ct_look_name), sl_look_name⟩)
    (c_look_name : PySem.W.codeIn K cd_look_name "look_name" = true)
    (k_look_name : PySem.W.keepIn K (.ref f_look_name) = true)
    (a_Giver_init : PySem.W.findIn K (.ref C_Giver) "__init__" = some (some (.ref f_Giver_init)))
    (i_Giver_init : PySem.W.isFn K (.ref f_Giver_init) = true)
    (l_Giver_init : K.lookup f_Giver_init = some ⟨oc_Giver_init, od_Giver_init, .func (PySem.W.fnOf "__init__" "Giver.__init__" (defArgs s_Giver_init) (defBody s_Giver_init) (defScope s_Giver_init) .none kV_Giver_init dc_Giver_init pm_Giver_init an_Giver_init cd_Giver_init ct_Giver_init), sl_Giver_init⟩)
    (c_Giver_init : PySem.W.codeIn K cd_Giver_init "Giver.__init__" = true)
    (k_Giver_init : PySem.W.keepIn K (.ref f_Giver_init) = true)
    (a_Giver_pump : PySem.W.findIn K (.ref C_Giver) "pump" = some (some (.ref f_Giver_pump)))
    (i_Giver_pump : PySem.W.isFn K (.ref f_Giver_pump) = true)
    (l_Giver_pump : K.lookup f_Giver_pump = some ⟨oc_Giver_pump, od_Giver_pump, .func (PySem.W.fnOf "pump" "Giver.pump" (defArgs s_Giver_pump) (defBody s_Giver_pump) (defScope s_Giver_pump) .none kV_Giver_pump dc_Giver_pump pm_Giver_pump an_Giver_pump cd_Giver_pump ct_Giver_pump), sl_Giver_pump⟩)
    (c_Giver_pump : PySem.W.codeIn K cd_Giver_pump "Giver.pump" = true)
    (k_Giver_pump : PySem.W.keepIn K (.ref f_Giver_pump) = true)
    (a_law_mix : PySem.W.nsIn K mainGlobals "_law_mix" = some (some (.ref f_law_mix)))
    (l_law_mix : K.lookup f_law_mix = some ⟨oc_law_mix, od_law_mix, .func (PySem.W.fnOf "_law_mix" "_law_mix" (defArgs s_law_mix) (defBody s_law_mix) (defScope s_law_mix) .none kV_law_mix dc_law_mix pm_law_mix an_law_mix cd_law_mix ct_law_mix), sl_law_mix⟩)
    (c_law_mix : PySem.W.codeIn K cd_law_mix "_law_mix" = true)
    (k_law_mix : PySem.W.keepIn K (.ref f_law_mix) = true)
    (a_look_tiding : PySem.W.nsIn K mainGlobals "look_tiding" = some (some (.ref f_look_tiding)))
    (l_look_tiding : K.lookup f_look_tiding = some ⟨oc_look_tiding, od_look_tiding, .func (PySem.W.fnOf "look_tiding" "look_tiding" (defArgs s_look_tiding) (defBody s_look_tiding) (defScope s_look_tiding) .none kV_look_tiding dc_look_tiding pm_look_tiding an_look_tiding cd_look_tiding ct_look_tiding), sl_look_tiding⟩)
    (c_look_tiding : PySem.W.codeIn K cd_look_tiding "look_tiding" = true)
    (k_look_tiding : PySem.W.keepIn K (.ref f_look_tiding) = true)
    (a_Giver_took : PySem.W.findIn K (.ref C_Giver) "took" = some (some (.ref f_Giver_took)))
    (i_Giver_took : PySem.W.isFn K (.ref f_Giver_took) = true)
    (l_Giver_took : K.lookup f_Giver_took = some ⟨oc_Giver_took, od_Giver_took, .func (PySem.W.fnOf "took" "Giver.took" (defArgs s_Giver_took) (defBody s_Giver_took) (defScope s_Giver_took) .none kV_Giver_took dc_Giver_took pm_Giver_took an_Giver_took cd_Giver_took ct_Giver_took), sl_Giver_took⟩)
    (c_Giver_took : PySem.W.codeIn K cd_Giver_took "Giver.took" = true)
    (k_Giver_took : PySem.W.keepIn K (.ref f_Giver_took) = true)
    (a_Giver_again : PySem.W.findIn K (.ref C_Giver) "again" = some (some (.ref f_Giver_again)))
    (i_Giver_again : PySem.W.isFn K (.ref f_Giver_again) = true)
    (l_Giver_again : K.lookup f_Giver_again = some ⟨oc_Giver_again, od_Giver_again, .func (PySem.W.fnOf "again" "Giver.again" (defArgs s_Giver_again) (defBody s_Giver_again) (defScope s_Giver_again) .none kV_Giver_again dc_Giver_again pm_Giver_again an_Giver_again cd_Giver_again ct_Giver_again), sl_Giver_again⟩)
    (c_Giver_again : PySem.W.codeIn K cd_Giver_again "Giver.again" = true)
    (k_Giver_again : PySem.W.keepIn K (.ref f_Giver_again) = true)
    (a_law_draw : PySem.W.nsIn K mainGlobals "_law_draw" = some (some (.ref f_law_draw)))
    (l_law_draw : K.lookup f_law_draw = some ⟨oc_law_draw, od_law_draw, .func (PySem.W.fnOf "_law_draw" "_law_draw" (defArgs s_law_draw) (defBody s_law_draw) (defScope s_law_draw) .none kV_law_draw dc_law_draw pm_law_draw an_law_draw cd_law_draw ct_law_draw), sl_law_draw⟩)
    (c_law_draw : PySem.W.codeIn K cd_law_draw "_law_draw" = true)
    (k_law_draw : PySem.W.keepIn K (.ref f_law_draw) = true)
    (a_Giver_keep : PySem.W.findIn K (.ref C_Giver) "keep" = some (some (.ref f_Giver_keep)))
    (i_Giver_keep : PySem.W.isFn K (.ref f_Giver_keep) = true)
    (l_Giver_keep : K.lookup f_Giver_keep = some ⟨oc_Giver_keep, od_Giver_keep, .func (PySem.W.fnOf "keep" "Giver.keep" (defArgs s_Giver_keep) (defBody s_Giver_keep) (defScope s_Giver_keep) .none kV_Giver_keep dc_Giver_keep pm_Giver_keep an_Giver_keep cd_Giver_keep ct_Giver_keep), sl_Giver_keep⟩)
    (c_Giver_keep : PySem.W.codeIn K cd_Giver_keep "Giver.keep" = true)
    (k_Giver_keep : PySem.W.keepIn K (.ref f_Giver_keep) = true)
    (a_law_carried : PySem.W.nsIn K mainGlobals "_law_carried" = some (some (.ref f_law_carried)))
    (l_law_carried : K.lookup f_law_carried = some ⟨oc_law_carried, od_law_carried, .func (PySem.W.fnOf "_law_carried" "_law_carried" (defArgs s_law_carried) (defBody s_law_carried) (defScope s_law_carried) .none kV_law_carried dc_law_carried pm_law_carried an_law_carried cd_law_carried ct_law_carried), sl_law_carried⟩)
    (c_law_carried : PySem.W.codeIn K cd_law_carried "_law_carried" = true)
    (k_law_carried : PySem.W.keepIn K (.ref f_law_carried) = true)
    (a_Giver_say : PySem.W.findIn K (.ref C_Giver) "say" = some (some (.ref f_Giver_say)))
    (i_Giver_say : PySem.W.isFn K (.ref f_Giver_say) = true)
    (l_Giver_say : K.lookup f_Giver_say = some ⟨oc_Giver_say, od_Giver_say, .func (PySem.W.fnOf "say" "Giver.say" (defArgs s_Giver_say) (defBody s_Giver_say) (defScope s_Giver_say) .none kV_Giver_say dc_Giver_say pm_Giver_say an_Giver_say cd_Giver_say ct_Giver_say), sl_Giver_say⟩)
    (c_Giver_say : PySem.W.codeIn K cd_Giver_say "Giver.say" = true)
    (k_Giver_say : PySem.W.keepIn K (.ref f_Giver_say) = true)
    (a_law : PySem.W.nsIn K mainGlobals "law" = some (some (.ref f_law)))
    (l_law : K.lookup f_law = some ⟨oc_law, od_law, .func (PySem.W.fnOf "law" "law" (defArgs s_law) (defBody s_law) (defScope s_law) .none kV_law dc_law pm_law an_law cd_law ct_law), sl_law⟩)
    (c_law : PySem.W.codeIn K cd_law "law" = true)
    (k_law : PySem.W.keepIn K (.ref f_law) = true)
    (pg_Giver : PySem.W.plainGet K C_Giver Str.empty = true)
    (hd_Giver : PySem.W.hasDictIn K C_Giver = true)
    (po_Giver : PySem.W.plainOver K C_Giver = true)
    (sa_Giver : PySem.W.findIn K (.ref C_Giver) "__setattr__" = some (some (.builtin "object.__setattr__")))
    (mk_Giver : PySem.W.makesIn K C_Giver = true)
    (n_Giver_window : PySem.W.findIn K (.ref C_Giver) "window" = some none)
    (n_Giver_most : PySem.W.findIn K (.ref C_Giver) "most" = some none)
    (n_Giver_last : PySem.W.findIn K (.ref C_Giver) "last" = some none)
    (n_Giver_waiting : PySem.W.findIn K (.ref C_Giver) "waiting" = some none)
    (n_Giver_flying : PySem.W.findIn K (.ref C_Giver) "flying" = some none)
    (pg_Taker : PySem.W.plainGet K C_Taker Str.empty = true)
    (hd_Taker : PySem.W.hasDictIn K C_Taker = true)
    (po_Taker : PySem.W.plainOver K C_Taker = true)
    (sa_Taker : PySem.W.findIn K (.ref C_Taker) "__setattr__" = some (some (.builtin "object.__setattr__")))
    (mk_Taker : PySem.W.makesIn K C_Taker = true)
    (n_Taker_numbers : PySem.W.findIn K (.ref C_Taker) "numbers" = some none)
    (x_TidingError : PySem.W.excIn K C_TidingError [.type "ValueError", .type "Exception", .type "BaseException", .type "object"] "ValueError.__new__" = true)
    (b_TidingError : PySem.W.subIn K (.ref C_TidingError) (.type "BaseException") = some true)
    (t_TidingError : PySem.W.typeIn K (.ref C_TidingError) = some (.type "type"))
    (x_BadName : PySem.W.excIn K C_BadName [.type "ValueError", .type "Exception", .type "BaseException", .type "object"] "ValueError.__new__" = true)
    (b_BadName : PySem.W.subIn K (.ref C_BadName) (.type "BaseException") = some true)
    (t_BadName : PySem.W.typeIn K (.ref C_BadName) = some (.type "type"))
    (x_BadPacket : PySem.W.excIn K C_BadPacket [.type "ValueError", .type "Exception", .type "BaseException", .type "object"] "ValueError.__new__" = true)
    (b_BadPacket : PySem.W.subIn K (.ref C_BadPacket) (.type "BaseException") = some true)
    (t_BadPacket : PySem.W.typeIn K (.ref C_BadPacket) = some (.type "type"))
    (x_BadLine : PySem.W.excIn K C_BadLine [.type "ValueError", .type "Exception", .type "BaseException", .type "object"] "ValueError.__new__" = true)
    (b_BadLine : PySem.W.subIn K (.ref C_BadLine) (.type "BaseException") = some true)
    (t_BadLine : PySem.W.typeIn K (.ref C_BadLine) = some (.type "type"))
    (n_all : PySem.W.nsIn K mainGlobals "all" = some none)
    (n_len : PySem.W.nsIn K mainGlobals "len" = some none)
    (n_ord : PySem.W.nsIn K mainGlobals "ord" = some none)
    (n_range : PySem.W.nsIn K mainGlobals "range" = some none)
    (n_str : PySem.W.nsIn K mainGlobals "str" = some none)
    (v_MOST_LEVELS : PySem.W.nsIn K mainGlobals "MOST_LEVELS" = some (some (.int 8 t_MOST_LEVELS)))
    (v_MOST_SIGNS : PySem.W.nsIn K mainGlobals "MOST_SIGNS" = some (some (.int 12 t_MOST_SIGNS)))
    (v_MOST_BODY : PySem.W.nsIn K mainGlobals "MOST_BODY" = some (some (.int 300 t_MOST_BODY)))
    (v_MOST_ID : PySem.W.nsIn K mainGlobals "MOST_ID" = some (some (.int 65535 t_MOST_ID)))
    (v_MOST_WINDOW : PySem.W.nsIn K mainGlobals "MOST_WINDOW" = some (some (.int 20 t_MOST_WINDOW))) :
    ∃ fd : FuncData, (∀ (s : Shared) (v : Value), BindsTo s fd ⟨[v], []⟩ [("script", v)]) ∧ ∀ base : Heap, K.In base → base.Ns mainGlobals mg → FnOk l.prog w K mg base (cxt true l.prog w) 6 fa fd ["script"] (spD ⟨K, mg, J⟩ 1 m_law) := by
  have e : fa = f_law := by
    have z := hfa.symm.trans (PySem.W.mg_of X G a_law)
    cases z
    rfl
  rw [e]
  have F_is_level := fun_mk (st := s_is_level) l_is_level c_is_level k_is_level
  have B_is_level := F_is_level.binds (ps := ["level"]) fun _ _ _ _ _ _ us hl => match us, hl with | [_], _ => rfl
  have F_look_grade := fun_mk (st := s_look_grade) l_look_grade c_look_grade k_look_grade
  have B_look_grade := F_look_grade.binds (ps := ["grade"]) fun _ _ _ _ _ _ us hl => match us, hl with | [_], _ => rfl
  have F_must := fun_mk (st := s_must) l_must c_must k_must
  have B_must := F_must.binds (ps := ["right"]) fun _ _ _ _ _ _ us hl => match us, hl with | [_], _ => rfl
  have F_is_body := fun_mk (st := s_is_body) l_is_body c_is_body k_is_body
  have B_is_body := F_is_body.binds (ps := ["body"]) fun _ _ _ _ _ _ us hl => match us, hl with | [_], _ => rfl
  have F_look_ends := fun_mk (st := s_look_ends) l_look_ends c_look_ends k_look_ends
  have B_look_ends := F_look_ends.binds (ps := ["window", "most"]) fun _ _ _ _ _ _ us hl => match us, hl with | [_, _], _ => rfl
  have F_Giver_number := fun_mk (st := s_Giver_number) l_Giver_number c_Giver_number k_Giver_number
  have B_Giver_number := F_Giver_number.binds (ps := ["self"]) fun _ _ _ _ _ _ us hl => match us, hl with | [_], _ => rfl
  have F_Giver_place_of := fun_mk (st := s_Giver_place_of) l_Giver_place_of c_Giver_place_of k_Giver_place_of
  have B_Giver_place_of := F_Giver_place_of.binds (ps := ["self", "number", "grade"]) fun _ _ _ _ _ _ us hl => match us, hl with | [_, _, _], _ => rfl
  have F_Giver_many := fun_mk (st := s_Giver_many) l_Giver_many c_Giver_many k_Giver_many
  have B_Giver_many := F_Giver_many.binds (ps := ["self"]) fun _ _ _ _ _ _ us hl => match us, hl with | [_], _ => rfl
  have F_Taker_init := fun_mk (st := s_Taker_init) l_Taker_init c_Taker_init k_Taker_init
  have B_Taker_init := F_Taker_init.binds (ps := ["self"]) fun _ _ _ _ _ _ us hl => match us, hl with | [_], _ => rfl
  have F_Taker_took := fun_mk (st := s_Taker_took) l_Taker_took c_Taker_took k_Taker_took
  have B_Taker_took := F_Taker_took.binds (ps := ["self", "packet"]) fun _ _ _ _ _ _ us hl => match us, hl with | [_, _], _ => rfl
  have F_law_cell := fun_mk (st := s_law_cell) l_law_cell c_law_cell k_law_cell
  have B_law_cell := F_law_cell.binds (ps := ["script", "k"]) fun _ _ _ _ _ _ us hl => match us, hl with | [_, _], _ => rfl
  have F_law_good := fun_mk (st := s_law_good) l_law_good c_law_good k_law_good
  have B_law_good := F_law_good.binds (ps := ["said", "came"]) fun _ _ _ _ _ _ us hl => match us, hl with | [_, _], _ => rfl
  have F_look_name := fun_mk (st := s_look_name) l_look_name c_look_name k_look_name
  have B_look_name := F_look_name.binds (ps := ["name"]) fun _ _ _ _ _ _ us hl => match us, hl with | [_], _ => rfl
  have F_Giver_init := fun_mk (st := s_Giver_init) l_Giver_init c_Giver_init k_Giver_init
  have B_Giver_init := F_Giver_init.binds (ps := ["self", "window", "most"]) fun _ _ _ _ _ _ us hl => match us, hl with | [_, _, _], _ => rfl
  have F_Giver_pump := fun_mk (st := s_Giver_pump) l_Giver_pump c_Giver_pump k_Giver_pump
  have B_Giver_pump := F_Giver_pump.binds (ps := ["self"]) fun _ _ _ _ _ _ us hl => match us, hl with | [_], _ => rfl
  have F_law_mix := fun_mk (st := s_law_mix) l_law_mix c_law_mix k_law_mix
  have B_law_mix := F_law_mix.binds (ps := ["script", "k"]) fun _ _ _ _ _ _ us hl => match us, hl with | [_, _], _ => rfl
  have F_look_tiding := fun_mk (st := s_look_tiding) l_look_tiding c_look_tiding k_look_tiding
  have B_look_tiding := F_look_tiding.binds (ps := ["name", "body", "grade", "kept"]) fun _ _ _ _ _ _ us hl => match us, hl with | [_, _, _, _], _ => rfl
  have F_Giver_took := fun_mk (st := s_Giver_took) l_Giver_took c_Giver_took k_Giver_took
  have B_Giver_took := F_Giver_took.binds (ps := ["self", "packet"]) fun _ _ _ _ _ _ us hl => match us, hl with | [_, _], _ => rfl
  have F_Giver_again := fun_mk (st := s_Giver_again) l_Giver_again c_Giver_again k_Giver_again
  have B_Giver_again := F_Giver_again.binds (ps := ["self"]) fun _ _ _ _ _ _ us hl => match us, hl with | [_], _ => rfl
  have F_law_draw := fun_mk (st := s_law_draw) l_law_draw c_law_draw k_law_draw
  have B_law_draw := F_law_draw.binds (ps := ["script", "town", "many"]) fun _ _ _ _ _ _ us hl => match us, hl with | [_, _, _], _ => rfl
  have F_Giver_keep := fun_mk (st := s_Giver_keep) l_Giver_keep c_Giver_keep k_Giver_keep
  have B_Giver_keep := F_Giver_keep.binds (ps := ["self", "name", "body", "grade", "kept"]) fun _ _ _ _ _ _ us hl => match us, hl with | [_, _, _, _, _], _ => rfl
  have F_law_carried := fun_mk (st := s_law_carried) l_law_carried c_law_carried k_law_carried
  have B_law_carried := F_law_carried.binds (ps := ["giver", "taker", "there", "back", "came"]) fun _ _ _ _ _ _ us hl => match us, hl with | [_, _, _, _, _], _ => rfl
  have F_Giver_say := fun_mk (st := s_Giver_say) l_Giver_say c_Giver_say k_Giver_say
  have B_Giver_say := F_Giver_say.binds (ps := ["self", "name", "body", "grade", "kept"]) fun _ _ _ _ _ _ us hl => match us, hl with | [_, _, _, _, _], _ => rfl
  have F_law := fun_mk (st := s_law) l_law c_law k_law
  have B_law := F_law.binds (ps := ["script"]) fun _ _ _ _ _ _ us hl => match us, hl with | [_], _ => rfl
  have gC_Giver := PySem.W.mg_of X G aC_Giver
  have K_Giver : Cls K C_Giver := ⟨pg_Giver, hd_Giver, po_Giver, sa_Giver⟩
  have gC_Taker := PySem.W.mg_of X G aC_Taker
  have K_Taker : Cls K C_Taker := ⟨pg_Taker, hd_Taker, po_Taker, sa_Taker⟩
  have T : Txt K mg { f_is_level := f_is_level, f_look_grade := f_look_grade, f_must := f_must, f_is_body := f_is_body, f_look_ends := f_look_ends, f_Giver_number := f_Giver_number, f_Giver_place_of := f_Giver_place_of, f_Giver_many := f_Giver_many, f_Taker_init := f_Taker_init, f_Taker_took := f_Taker_took, f_law_cell := f_law_cell, f_law_good := f_law_good, f_look_name := f_look_name, f_Giver_init := f_Giver_init, f_Giver_pump := f_Giver_pump, f_law_mix := f_law_mix, f_look_tiding := f_look_tiding, f_Giver_took := f_Giver_took, f_Giver_again := f_Giver_again, f_law_draw := f_law_draw, f_Giver_keep := f_Giver_keep, f_law_carried := f_law_carried, f_Giver_say := f_Giver_say, f_law := f_law, C_Giver := C_Giver, C_Taker := C_Taker, C_TidingError := C_TidingError, C_BadName := C_BadName, C_BadPacket := C_BadPacket, C_BadLine := C_BadLine, t_MOST_LEVELS := t_MOST_LEVELS, t_MOST_SIGNS := t_MOST_SIGNS, t_MOST_BODY := t_MOST_BODY, t_MOST_ID := t_MOST_ID, t_MOST_WINDOW := t_MOST_WINDOW } := { d_is_level := ⟨_, F_is_level, B_is_level⟩, g_is_level := PySem.W.mg_of X G a_is_level, k_is_level := k_is_level, d_look_grade := ⟨_, F_look_grade, B_look_grade⟩, g_look_grade := PySem.W.mg_of X G a_look_grade, k_look_grade := k_look_grade, d_must := ⟨_, F_must, B_must⟩, g_must := PySem.W.mg_of X G a_must, k_must := k_must, d_is_body := ⟨_, F_is_body, B_is_body⟩, g_is_body := PySem.W.mg_of X G a_is_body, k_is_body := k_is_body, d_look_ends := ⟨_, F_look_ends, B_look_ends⟩, g_look_ends := PySem.W.mg_of X G a_look_ends, k_look_ends := k_look_ends, d_Giver_number := ⟨_, F_Giver_number, B_Giver_number⟩, d_Giver_place_of := ⟨_, F_Giver_place_of, B_Giver_place_of⟩, d_Giver_many := ⟨_, F_Giver_many, B_Giver_many⟩, d_Taker_init := ⟨_, F_Taker_init, B_Taker_init⟩, d_Taker_took := ⟨_, F_Taker_took, B_Taker_took⟩, d_law_cell := ⟨_, F_law_cell, B_law_cell⟩, g_law_cell := PySem.W.mg_of X G a_law_cell, k_law_cell := k_law_cell, d_law_good := ⟨_, F_law_good, B_law_good⟩, g_law_good := PySem.W.mg_of X G a_law_good, k_law_good := k_law_good, d_look_name := ⟨_, F_look_name, B_look_name⟩, g_look_name := PySem.W.mg_of X G a_look_name, k_look_name := k_look_name, d_Giver_init := ⟨_, F_Giver_init, B_Giver_init⟩, d_Giver_pump := ⟨_, F_Giver_pump, B_Giver_pump⟩, d_law_mix := ⟨_, F_law_mix, B_law_mix⟩, g_law_mix := PySem.W.mg_of X G a_law_mix, k_law_mix := k_law_mix, d_look_tiding := ⟨_, F_look_tiding, B_look_tiding⟩, g_look_tiding := PySem.W.mg_of X G a_look_tiding, k_look_tiding := k_look_tiding, d_Giver_took := ⟨_, F_Giver_took, B_Giver_took⟩, d_Giver_again := ⟨_, F_Giver_again, B_Giver_again⟩, d_law_draw := ⟨_, F_law_draw, B_law_draw⟩, g_law_draw := PySem.W.mg_of X G a_law_draw, k_law_draw := k_law_draw, d_Giver_keep := ⟨_, F_Giver_keep, B_Giver_keep⟩, d_law_carried := ⟨_, F_law_carried, B_law_carried⟩, g_law_carried := PySem.W.mg_of X G a_law_carried, k_law_carried := k_law_carried, d_Giver_say := ⟨_, F_Giver_say, B_Giver_say⟩, d_law := ⟨_, F_law, B_law⟩, g_law := PySem.W.mg_of X G a_law, k_law := k_law, a_Giver_window := ⟨rfl, by decide +kernel, fun C h => by have e := h.symm.trans gC_Giver; cases e; exact ⟨K_Giver, n_Giver_window⟩⟩, a_Giver_most := ⟨rfl, by decide +kernel, fun C h => by have e := h.symm.trans gC_Giver; cases e; exact ⟨K_Giver, n_Giver_most⟩⟩, a_Giver_last := ⟨rfl, by decide +kernel, fun C h => by have e := h.symm.trans gC_Giver; cases e; exact ⟨K_Giver, n_Giver_last⟩⟩, a_Giver_waiting := ⟨rfl, by decide +kernel, fun C h => by have e := h.symm.trans gC_Giver; cases e; exact ⟨K_Giver, n_Giver_waiting⟩⟩, a_Giver_flying := ⟨rfl, by decide +kernel, fun C h => by have e := h.symm.trans gC_Giver; cases e; exact ⟨K_Giver, n_Giver_flying⟩⟩, mk_Giver := ⟨gC_Giver, ⟨mk_Giver, a_Giver_init, i_Giver_init, kC_Giver⟩, by decide⟩, me_Giver_number := ⟨gC_Giver, by decide +kernel, K_Giver, ⟨a_Giver_number, i_Giver_number, k_Giver_number⟩⟩, me_Giver_place_of := ⟨gC_Giver, by decide +kernel, K_Giver, ⟨a_Giver_place_of, i_Giver_place_of, k_Giver_place_of⟩⟩, me_Giver_many := ⟨gC_Giver, by decide +kernel, K_Giver, ⟨a_Giver_many, i_Giver_many, k_Giver_many⟩⟩, me_Giver_pump := ⟨gC_Giver, by decide +kernel, K_Giver, ⟨a_Giver_pump, i_Giver_pump, k_Giver_pump⟩⟩, me_Giver_took := ⟨gC_Giver, by decide +kernel, K_Giver, ⟨a_Giver_took, i_Giver_took, k_Giver_took⟩⟩, me_Giver_again := ⟨gC_Giver, by decide +kernel, K_Giver, ⟨a_Giver_again, i_Giver_again, k_Giver_again⟩⟩, me_Giver_keep := ⟨gC_Giver, by decide +kernel, K_Giver, ⟨a_Giver_keep, i_Giver_keep, k_Giver_keep⟩⟩, me_Giver_say := ⟨gC_Giver, by decide +kernel, K_Giver, ⟨a_Giver_say, i_Giver_say, k_Giver_say⟩⟩, a_Taker_numbers := ⟨rfl, by decide +kernel, fun C h => by have e := h.symm.trans gC_Taker; cases e; exact ⟨K_Taker, n_Taker_numbers⟩⟩, mk_Taker := ⟨gC_Taker, ⟨mk_Taker, a_Taker_init, i_Taker_init, kC_Taker⟩, by decide⟩, me_Taker_took := ⟨gC_Taker, by decide +kernel, K_Taker, ⟨a_Taker_took, i_Taker_took, k_Taker_took⟩⟩, x_TidingError := x_TidingError, gc_TidingError := PySem.W.mg_of X G aC_TidingError, kc_TidingError := kC_TidingError, b_TidingError := b_TidingError, t_TidingError := t_TidingError, x_BadName := x_BadName, gc_BadName := PySem.W.mg_of X G aC_BadName, kc_BadName := kC_BadName, b_BadName := b_BadName, t_BadName := t_BadName, x_BadPacket := x_BadPacket, gc_BadPacket := PySem.W.mg_of X G aC_BadPacket, kc_BadPacket := kC_BadPacket, b_BadPacket := b_BadPacket, t_BadPacket := t_BadPacket, x_BadLine := x_BadLine, gc_BadLine := PySem.W.mg_of X G aC_BadLine, kc_BadLine := kC_BadLine, b_BadLine := b_BadLine, t_BadLine := t_BadLine, n_all := PySem.W.mg_none_of X G n_all, n_len := PySem.W.mg_none_of X G n_len, n_ord := PySem.W.mg_none_of X G n_ord, n_range := PySem.W.mg_none_of X G n_range, n_str := PySem.W.mg_none_of X G n_str, c_MOST_LEVELS := PySem.W.mg_of X G v_MOST_LEVELS, c_MOST_SIGNS := PySem.W.mg_of X G v_MOST_SIGNS, c_MOST_BODY := PySem.W.mg_of X G v_MOST_BODY, c_MOST_ID := PySem.W.mg_of X G v_MOST_ID, c_MOST_WINDOW := PySem.W.mg_of X G v_MOST_WINDOW }
  exact ⟨PySem.W.fnOf "law" "law" (defArgs s_law) (defBody s_law) (defScope s_law) .none kV_law dc_law pm_law an_law cd_law ct_law, fun s v => .of_eq rfl, fun base _ _ => fn_law T F_law⟩
def spW (K : PySem.W.Frag) : Sp := fun vs H Q E => ∀ mg, spD ⟨K, mg, J⟩ 1 m_law vs H Q E
theorem walk (hlaw : ∀ ns : List Int, ns.length ≤ 63 → ∃ s, m_law [.lsk (ns.map .int)] [] = .ok (.bl true) s) {l : PySem.W.OpenLaw} {q : Program} {loose : List Str} {XP : (Str → Option Value) → Heap → Prop} {YP : World → Heap → Prop} {d : DefRec} {K : Params → PySem.W.Frag} (hn : l.most = some 63) (hdf : d.params.defaults = [])
    (hY : ∀ (w : World) (h : Heap), YP w h → (K w.params).In h)
    (F : ∀ (w : World) (mg : Str → Option Value) (fa : Addr) (h : Heap), (K w.params).In h → h.Ns mainGlobals mg → mg d.name = some (.ref fa) →
      ∃ fd : FuncData, (∀ (s : Shared) (u : Value), BindsTo s fd ⟨[u], []⟩ [("script", u)]) ∧ ∀ base : Heap, (K w.params).In base → base.Ns mainGlobals mg → FnOk l.prog w (K w.params) mg base (cxt true l.prog w) 6 fa fd ["script"] (spD ⟨K w.params, mg, J⟩ 1 m_law)) :
    PySem.W.WalkO q loose XP YP l.row.toRowW d [] (fun f vs => PySem.call f vs) :=
  L2.walk_of (n := 63) (k := 6) (x := "script") (CX := fun w => cxt true l.prog w) (sp := fun w => spW (K w.params)) hn (by decide) hdf ⟨rfl, by decide, by decide⟩ hY (fun w mg fa h kx hg hm => by
      obtain ⟨fd, h1, h2⟩ := F w mg fa h kx hg hm
      exact ⟨fd, h1, fun base hb hgb => (h2 base hb hgb).imp fun vs H Q E hs => hs mg⟩) (fun w H a ns hl _ hS mg => law_sp hlaw hl hS) fun w H s e s' h => by
    obtain ⟨_, _, _, _, _, _, _, _, _, _, _, _, z⟩ := h
    exact z
end Tx
namespace Tx
open PySem L2 Pd
/-! ### texts that are written -/
theorem t_slash : Str.ofString "/" = mkS [47] := by decide +kernel
theorem t_hash : Str.ofString "#" = mkS [35] := by decide +kernel
theorem t_plus : Str.ofString "+" = mkS [43] := by decide +kernel
theorem t_nil : Str.ofString "" = mkS [] := by decide +kernel
theorem t_bad : Str.ofString "+#/" = mkS [43, 35, 47] := by decide +kernel
theorem t_dollar : Str.ofString "$" = mkS [36] := by decide +kernel
theorem t_a : Str.ofString "a" = mkS [97] := by decide +kernel
/-! ### names and wishes, plainly -/
def sgn (c : Nat) : Bool := 32 ≤ c && c < 127 && c != 37 && !decide (c ∈ [43, 35, 47])
def gl (l : List Nat) : Bool := decide (l.length ≤ 12) && l.all sgn
def isName (l : List Nat) : Bool := !(l == []) && decide ((splC 47 l).length ≤ 8) && (splC 47 l).all gl
def plain (ls : List (List Nat)) : List (List Nat) := if ls.getLast? = some [35] then ls.dropLast else ls
def gw (l : List Nat) : Bool := l == [43] || gl l
def isWish (l : List Nat) : Bool := !(l == []) && decide ((splC 47 l).length ≤ 8) && (plain (splC 47 l)).all gw
theorem ev_is_level (l : List Nat) (s : Sto) : m_is_level [.str (mkS l)] s = .ok (.bl (gl l)) s := by
  by_cases h : l.length ≤ 12
  · have h1 : ¬ ((12 : Int) < l.length) := by omega
    have e3 : ∀ env1 : En, True → lcGo (gN 1) Pd.tYes (eAnd (eChain dLe dLt (eC (.int 32)) (eUn dOrd (eVar 1)) (eC (.int 127))) (eAnd (eOp dNe (eUn dOrd (eVar 1)) (eC (.int 37))) (eOp dNotIn (eVar 1) (eC (.str (mkS [43, 35, 47])))))) (fun _ => True) (l.map fun c => .str (mkS [c])) [some (.str (mkS l)), none] s = .ok (l.map fun c => .bl (sgn c)) s := fun _ _ => by
      refine lc_map trivial fun c _ => ⟨[some (.str (mkS l)), some (.str (mkS [c]))], rfl, rfl, ?_⟩
      by_cases h2 : (32 : Int) ≤ c
      · by_cases h3 : (c : Int) < 127
        · by_cases h4 : (c : Int) = 37
          · have e : c = 37 := by omega
            subst e
            rfl
          · have h5 : ((c : Int) == 37) = false := by simpa using h4
            simp only [fnOf, ev_seq, ev_asg, sBnd_def, ev_op, ev_un, bnd_def, ev_call, evs_cons, evs_nil, ev_var, ev_c, ev_if, ev_next, ev_expr, ev_tru, ev_bl, ev_and, ev_or, ev_not, ev_yes, ev_andE, ev_orE, ev_notE, ev_ifE, ev_chain, ofB_some, ofO_some, ofO_none, truD_non, truD_bl, truD_int, truD_str, truD_tup, truD_lst, truD_lsk, ev_tup, ev_lst, ev_nwF, ev_nwM, ev_meth, ev_make, ev_fld, ev_setF, ev_bm1, asQ_tup, asQ_lst, asQ_lsk, asL_lst, asL_lsk, dLen_tup, dLen_lst, dLen_lsk, dLen_str, dIx_tup, dIx_lst, dIx_lsk, dIx_str, dAdd_int, dNeg_int, isN_def, notN_def, isNon_non, isNon_int, isNon_bl, isNon_str, isNon_tup, isNon_lst, isNon_obj, isNon_exc, dEq_int, dNe_int, dEq_str, dNe_str, dEq_bl, atI_zero, atI_one, atI_2, atI_3, atI_4, atI_5, atI_6, atI_7, atI_8, atI_9, atI_10, atI_11, atI_12, atI_m1, ev_gT, setAll_nil, setAll_cons, iOp_int, ev_gN, ev_ret, List.map_cons, List.map_nil, List.length_cons, List.length_nil, rep_zero, rep_succ, List.cons_append, List.nil_append, List.getElem?_cons_zero, List.getElem?_cons_succ, List.set_cons_zero, List.set_cons_succ, Nat.sub_self, Nat.reduceAdd, Nat.reduceSub, Option.map_some, Option.bind_some, if_true, Bool.not_true, Bool.not_false, Bool.false_eq_true, if_false, decide_true, decide_false, Int.reduceBEq, Int.reduceEq, Int.reduceLT, Int.reduceLE, Int.reduceNeg, Int.reduceAdd, Int.reduceSub, Int.reduceMul, Int.reduceToNat, Nat.reduceLT, Nat.reduceLeDiff, beq_self_eq_true, reduceIte, eq_self, Int.reduceNe, Int.reduceBNe, not_true_eq_false, not_false_eq_true, true_and, and_true, true_or, or_true, false_or, or_false, and_false, false_and, decide_eq_true_eq, Bool.true_and, Bool.and_true, Bool.false_and, Bool.and_false, Bool.true_or, Bool.or_true, Bool.false_or, Bool.or_false, dOrd_mk, dLe, dLt, h2, h3, h5, dNotIn_sign]
            have h6 : sgn c = (!decide (c ∈ [43, 35, 47])) := by
              unfold sgn
              have a1 : decide (32 ≤ c) = true := decide_eq_true (by omega)
              have a2 : decide (c < 127) = true := decide_eq_true (by omega)
              have a3 : (c != 37) = true := by simp; omega
              rw [a1, a2, a3]; rfl
            rw [h6]
        · simp only [fnOf, ev_seq, ev_asg, sBnd_def, ev_op, ev_un, bnd_def, ev_call, evs_cons, evs_nil, ev_var, ev_c, ev_if, ev_next, ev_expr, ev_tru, ev_bl, ev_and, ev_or, ev_not, ev_yes, ev_andE, ev_orE, ev_notE, ev_ifE, ev_chain, ofB_some, ofO_some, ofO_none, truD_non, truD_bl, truD_int, truD_str, truD_tup, truD_lst, truD_lsk, ev_tup, ev_lst, ev_nwF, ev_nwM, ev_meth, ev_make, ev_fld, ev_setF, ev_bm1, asQ_tup, asQ_lst, asQ_lsk, asL_lst, asL_lsk, dLen_tup, dLen_lst, dLen_lsk, dLen_str, dIx_tup, dIx_lst, dIx_lsk, dIx_str, dAdd_int, dNeg_int, isN_def, notN_def, isNon_non, isNon_int, isNon_bl, isNon_str, isNon_tup, isNon_lst, isNon_obj, isNon_exc, dEq_int, dNe_int, dEq_str, dNe_str, dEq_bl, atI_zero, atI_one, atI_2, atI_3, atI_4, atI_5, atI_6, atI_7, atI_8, atI_9, atI_10, atI_11, atI_12, atI_m1, ev_gT, setAll_nil, setAll_cons, iOp_int, ev_gN, ev_ret, List.map_cons, List.map_nil, List.length_cons, List.length_nil, rep_zero, rep_succ, List.cons_append, List.nil_append, List.getElem?_cons_zero, List.getElem?_cons_succ, List.set_cons_zero, List.set_cons_succ, Nat.sub_self, Nat.reduceAdd, Nat.reduceSub, Option.map_some, Option.bind_some, if_true, Bool.not_true, Bool.not_false, Bool.false_eq_true, if_false, decide_true, decide_false, Int.reduceBEq, Int.reduceEq, Int.reduceLT, Int.reduceLE, Int.reduceNeg, Int.reduceAdd, Int.reduceSub, Int.reduceMul, Int.reduceToNat, Nat.reduceLT, Nat.reduceLeDiff, beq_self_eq_true, reduceIte, eq_self, Int.reduceNe, Int.reduceBNe, not_true_eq_false, not_false_eq_true, true_and, and_true, true_or, or_true, false_or, or_false, and_false, false_and, decide_eq_true_eq, Bool.true_and, Bool.and_true, Bool.false_and, Bool.and_false, Bool.true_or, Bool.or_true, Bool.false_or, Bool.or_false, dOrd_mk, dLe, dLt, h2, h3, dNotIn_sign]
          have h6 : sgn c = false := by
            unfold sgn
            have a2 : decide (c < 127) = false := decide_eq_false (by omega)
            rw [a2]; simp
          rw [h6]
      · simp only [fnOf, ev_seq, ev_asg, sBnd_def, ev_op, ev_un, bnd_def, ev_call, evs_cons, evs_nil, ev_var, ev_c, ev_if, ev_next, ev_expr, ev_tru, ev_bl, ev_and, ev_or, ev_not, ev_yes, ev_andE, ev_orE, ev_notE, ev_ifE, ev_chain, ofB_some, ofO_some, ofO_none, truD_non, truD_bl, truD_int, truD_str, truD_tup, truD_lst, truD_lsk, ev_tup, ev_lst, ev_nwF, ev_nwM, ev_meth, ev_make, ev_fld, ev_setF, ev_bm1, asQ_tup, asQ_lst, asQ_lsk, asL_lst, asL_lsk, dLen_tup, dLen_lst, dLen_lsk, dLen_str, dIx_tup, dIx_lst, dIx_lsk, dIx_str, dAdd_int, dNeg_int, isN_def, notN_def, isNon_non, isNon_int, isNon_bl, isNon_str, isNon_tup, isNon_lst, isNon_obj, isNon_exc, dEq_int, dNe_int, dEq_str, dNe_str, dEq_bl, atI_zero, atI_one, atI_2, atI_3, atI_4, atI_5, atI_6, atI_7, atI_8, atI_9, atI_10, atI_11, atI_12, atI_m1, ev_gT, setAll_nil, setAll_cons, iOp_int, ev_gN, ev_ret, List.map_cons, List.map_nil, List.length_cons, List.length_nil, rep_zero, rep_succ, List.cons_append, List.nil_append, List.getElem?_cons_zero, List.getElem?_cons_succ, List.set_cons_zero, List.set_cons_succ, Nat.sub_self, Nat.reduceAdd, Nat.reduceSub, Option.map_some, Option.bind_some, if_true, Bool.not_true, Bool.not_false, Bool.false_eq_true, if_false, decide_true, decide_false, Int.reduceBEq, Int.reduceEq, Int.reduceLT, Int.reduceLE, Int.reduceNeg, Int.reduceAdd, Int.reduceSub, Int.reduceMul, Int.reduceToNat, Nat.reduceLT, Nat.reduceLeDiff, beq_self_eq_true, reduceIte, eq_self, Int.reduceNe, Int.reduceBNe, not_true_eq_false, not_false_eq_true, true_and, and_true, true_or, or_true, false_or, or_false, and_false, false_and, decide_eq_true_eq, Bool.true_and, Bool.and_true, Bool.false_and, Bool.and_false, Bool.true_or, Bool.or_true, Bool.false_or, Bool.or_false, dOrd_mk, dLe, dLt, h2, dNotIn_sign]
        have h6 : sgn c = false := by
          unfold sgn
          have a2 : decide (32 ≤ c) = false := decide_eq_false (by omega)
          rw [a2]; simp
        rw [h6]
    have e4 := e3 [] trivial
    have hg : gl l = l.all sgn := by unfold gl; rw [decide_eq_true h, Bool.true_and]
    unfold m_is_level b_is_level
    simp only [fnOf, ev_seq, ev_asg, sBnd_def, ev_op, ev_un, bnd_def, ev_call, evs_cons, evs_nil, ev_var, ev_c, ev_if, ev_next, ev_expr, ev_tru, ev_bl, ev_and, ev_or, ev_not, ev_yes, ev_andE, ev_orE, ev_notE, ev_ifE, ev_chain, ofB_some, ofO_some, ofO_none, truD_non, truD_bl, truD_int, truD_str, truD_tup, truD_lst, truD_lsk, ev_tup, ev_lst, ev_nwF, ev_nwM, ev_meth, ev_make, ev_fld, ev_setF, ev_bm1, asQ_tup, asQ_lst, asQ_lsk, asL_lst, asL_lsk, dLen_tup, dLen_lst, dLen_lsk, dLen_str, dIx_tup, dIx_lst, dIx_lsk, dIx_str, dAdd_int, dNeg_int, isN_def, notN_def, isNon_non, isNon_int, isNon_bl, isNon_str, isNon_tup, isNon_lst, isNon_obj, isNon_exc, dEq_int, dNe_int, dEq_str, dNe_str, dEq_bl, atI_zero, atI_one, atI_2, atI_3, atI_4, atI_5, atI_6, atI_7, atI_8, atI_9, atI_10, atI_11, atI_12, atI_m1, ev_gT, setAll_nil, setAll_cons, iOp_int, ev_gN, ev_ret, List.map_cons, List.map_nil, List.length_cons, List.length_nil, rep_zero, rep_succ, List.cons_append, List.nil_append, List.getElem?_cons_zero, List.getElem?_cons_succ, List.set_cons_zero, List.set_cons_succ, Nat.sub_self, Nat.reduceAdd, Nat.reduceSub, Option.map_some, Option.bind_some, if_true, Bool.not_true, Bool.not_false, Bool.false_eq_true, if_false, decide_true, decide_false, Int.reduceBEq, Int.reduceEq, Int.reduceLT, Int.reduceLE, Int.reduceNeg, Int.reduceAdd, Int.reduceSub, Int.reduceMul, Int.reduceToNat, Nat.reduceLT, Nat.reduceLeDiff, beq_self_eq_true, reduceIte, eq_self, Int.reduceNe, Int.reduceBNe, not_true_eq_false, not_false_eq_true, true_and, and_true, true_or, or_true, false_or, or_false, and_false, false_and, decide_eq_true_eq, Bool.true_and, Bool.and_true, Bool.false_and, Bool.and_false, Bool.true_or, Bool.or_true, Bool.false_or, Bool.or_false, mkS_len, dGt, h1, t_bad, ev_lc, ev_iSeq, signs_mk, wipeD_nil, wipeD_cons, bndN, e4, dAll_map, hg]
  · have h1 : (12 : Int) < l.length := by omega
    have hg : gl l = false := by unfold gl; rw [decide_eq_false h, Bool.false_and]
    unfold m_is_level b_is_level
    simp only [fnOf, ev_seq, ev_asg, sBnd_def, ev_op, ev_un, bnd_def, ev_call, evs_cons, evs_nil, ev_var, ev_c, ev_if, ev_next, ev_expr, ev_tru, ev_bl, ev_and, ev_or, ev_not, ev_yes, ev_andE, ev_orE, ev_notE, ev_ifE, ev_chain, ofB_some, ofO_some, ofO_none, truD_non, truD_bl, truD_int, truD_str, truD_tup, truD_lst, truD_lsk, ev_tup, ev_lst, ev_nwF, ev_nwM, ev_meth, ev_make, ev_fld, ev_setF, ev_bm1, asQ_tup, asQ_lst, asQ_lsk, asL_lst, asL_lsk, dLen_tup, dLen_lst, dLen_lsk, dLen_str, dIx_tup, dIx_lst, dIx_lsk, dIx_str, dAdd_int, dNeg_int, isN_def, notN_def, isNon_non, isNon_int, isNon_bl, isNon_str, isNon_tup, isNon_lst, isNon_obj, isNon_exc, dEq_int, dNe_int, dEq_str, dNe_str, dEq_bl, atI_zero, atI_one, atI_2, atI_3, atI_4, atI_5, atI_6, atI_7, atI_8, atI_9, atI_10, atI_11, atI_12, atI_m1, ev_gT, setAll_nil, setAll_cons, iOp_int, ev_gN, ev_ret, List.map_cons, List.map_nil, List.length_cons, List.length_nil, rep_zero, rep_succ, List.cons_append, List.nil_append, List.getElem?_cons_zero, List.getElem?_cons_succ, List.set_cons_zero, List.set_cons_succ, Nat.sub_self, Nat.reduceAdd, Nat.reduceSub, Option.map_some, Option.bind_some, if_true, Bool.not_true, Bool.not_false, Bool.false_eq_true, if_false, decide_true, decide_false, Int.reduceBEq, Int.reduceEq, Int.reduceLT, Int.reduceLE, Int.reduceNeg, Int.reduceAdd, Int.reduceSub, Int.reduceMul, Int.reduceToNat, Nat.reduceLT, Nat.reduceLeDiff, beq_self_eq_true, reduceIte, eq_self, Int.reduceNe, Int.reduceBNe, not_true_eq_false, not_false_eq_true, true_and, and_true, true_or, or_true, false_or, or_false, and_false, false_and, decide_eq_true_eq, Bool.true_and, Bool.and_true, Bool.false_and, Bool.and_false, Bool.true_or, Bool.or_true, Bool.false_or, Bool.or_false, mkS_len, dGt, h1, hg]
theorem ev_look_name (l : List Nat) (s : Sto) : m_look_name [.str (mkS l)] s = if isName l = true then .ok .non s else .exc 3 s := by
  have e3 : lcGo (gN 2) Pd.tYes (eCall m_is_level [eVar 2]) (fun _ => True) (lvs (splC 47 l)) [some (.str (mkS l)), some (.lst (lvs (splC 47 l))), none] s = .ok ((splC 47 l).map fun p => .bl (gl p)) s :=
    by
      refine lc_map ?_ fun p _ => ⟨[some (.str (mkS l)), some (.lst (lvs (splC 47 l))), some (.str (mkS p))], rfl, rfl, ?_⟩
      · trivial
      · simp only [fnOf, ev_seq, ev_asg, sBnd_def, ev_op, ev_un, bnd_def, ev_call, evs_cons, evs_nil, ev_var, ev_c, ev_if, ev_next, ev_expr, ev_tru, ev_bl, ev_and, ev_or, ev_not, ev_yes, ev_andE, ev_orE, ev_notE, ev_ifE, ev_chain, ofB_some, ofO_some, ofO_none, truD_non, truD_bl, truD_int, truD_str, truD_tup, truD_lst, truD_lsk, ev_tup, ev_lst, ev_nwF, ev_nwM, ev_meth, ev_make, ev_fld, ev_setF, ev_bm1, asQ_tup, asQ_lst, asQ_lsk, asL_lst, asL_lsk, dLen_tup, dLen_lst, dLen_lsk, dLen_str, dIx_tup, dIx_lst, dIx_lsk, dIx_str, dAdd_int, dNeg_int, isN_def, notN_def, isNon_non, isNon_int, isNon_bl, isNon_str, isNon_tup, isNon_lst, isNon_obj, isNon_exc, dEq_int, dNe_int, dEq_str, dNe_str, dEq_bl, atI_zero, atI_one, atI_2, atI_3, atI_4, atI_5, atI_6, atI_7, atI_8, atI_9, atI_10, atI_11, atI_12, atI_m1, ev_gT, setAll_nil, setAll_cons, iOp_int, ev_gN, ev_ret, List.map_cons, List.map_nil, List.length_cons, List.length_nil, rep_zero, rep_succ, List.cons_append, List.nil_append, List.getElem?_cons_zero, List.getElem?_cons_succ, List.set_cons_zero, List.set_cons_succ, Nat.sub_self, Nat.reduceAdd, Nat.reduceSub, Option.map_some, Option.bind_some, if_true, Bool.not_true, Bool.not_false, Bool.false_eq_true, if_false, decide_true, decide_false, Int.reduceBEq, Int.reduceEq, Int.reduceLT, Int.reduceLE, Int.reduceNeg, Int.reduceAdd, Int.reduceSub, Int.reduceMul, Int.reduceToNat, Nat.reduceLT, Nat.reduceLeDiff, beq_self_eq_true, reduceIte, eq_self, Int.reduceNe, Int.reduceBNe, not_true_eq_false, not_false_eq_true, true_and, and_true, true_or, or_true, false_or, or_false, and_false, false_and, decide_eq_true_eq, Bool.true_and, Bool.and_true, Bool.false_and, Bool.and_false, Bool.true_or, Bool.or_true, Bool.false_or, Bool.or_false, ev_is_level]
  unfold m_look_name b_look_name
  by_cases h1 : (l == []) = true
  · have hn : isName l = false := by unfold isName; rw [h1]; rfl
    simp only [fnOf, ev_seq, ev_asg, sBnd_def, ev_op, ev_un, bnd_def, ev_call, evs_cons, evs_nil, ev_var, ev_c, ev_if, ev_next, ev_expr, ev_tru, ev_bl, ev_and, ev_or, ev_not, ev_yes, ev_andE, ev_orE, ev_notE, ev_ifE, ev_chain, ofB_some, ofO_some, ofO_none, truD_non, truD_bl, truD_int, truD_str, truD_tup, truD_lst, truD_lsk, ev_tup, ev_lst, ev_nwF, ev_nwM, ev_meth, ev_make, ev_fld, ev_setF, ev_bm1, asQ_tup, asQ_lst, asQ_lsk, asL_lst, asL_lsk, dLen_tup, dLen_lst, dLen_lsk, dLen_str, dIx_tup, dIx_lst, dIx_lsk, dIx_str, dAdd_int, dNeg_int, isN_def, notN_def, isNon_non, isNon_int, isNon_bl, isNon_str, isNon_tup, isNon_lst, isNon_obj, isNon_exc, dEq_int, dNe_int, dEq_str, dNe_str, dEq_bl, atI_zero, atI_one, atI_2, atI_3, atI_4, atI_5, atI_6, atI_7, atI_8, atI_9, atI_10, atI_11, atI_12, atI_m1, ev_gT, setAll_nil, setAll_cons, iOp_int, ev_gN, ev_ret, List.map_cons, List.map_nil, List.length_cons, List.length_nil, rep_zero, rep_succ, List.cons_append, List.nil_append, List.getElem?_cons_zero, List.getElem?_cons_succ, List.set_cons_zero, List.set_cons_succ, Nat.sub_self, Nat.reduceAdd, Nat.reduceSub, Option.map_some, Option.bind_some, if_true, Bool.not_true, Bool.not_false, Bool.false_eq_true, if_false, decide_true, decide_false, Int.reduceBEq, Int.reduceEq, Int.reduceLT, Int.reduceLE, Int.reduceNeg, Int.reduceAdd, Int.reduceSub, Int.reduceMul, Int.reduceToNat, Nat.reduceLT, Nat.reduceLeDiff, beq_self_eq_true, reduceIte, eq_self, Int.reduceNe, Int.reduceBNe, not_true_eq_false, not_false_eq_true, true_and, and_true, true_or, or_true, false_or, or_false, and_false, false_and, decide_eq_true_eq, Bool.true_and, Bool.and_true, Bool.false_and, Bool.and_false, Bool.true_or, Bool.or_true, Bool.false_or, Bool.or_false, t_slash, t_nil, isStr_str, dSplit_mk, mkS_beq, h1, ev_raise, hn]
  · have h1' : (l == []) = false := by simpa using h1
    by_cases h2 : (splC 47 l).length ≤ 8
    · have g2 : ¬ ((8 : Int) < (splC 47 l).length) := by omega
      have hn : isName l = (splC 47 l).all gl := by unfold isName; rw [h1', decide_eq_true h2]; rfl
      cases hq : (splC 47 l).all gl with
      | true => simp only [fnOf, ev_seq, ev_asg, sBnd_def, ev_op, ev_un, bnd_def, ev_call, evs_cons, evs_nil, ev_var, ev_c, ev_if, ev_next, ev_expr, ev_tru, ev_bl, ev_and, ev_or, ev_not, ev_yes, ev_andE, ev_orE, ev_notE, ev_ifE, ev_chain, ofB_some, ofO_some, ofO_none, truD_non, truD_bl, truD_int, truD_str, truD_tup, truD_lst, truD_lsk, ev_tup, ev_lst, ev_nwF, ev_nwM, ev_meth, ev_make, ev_fld, ev_setF, ev_bm1, asQ_tup, asQ_lst, asQ_lsk, asL_lst, asL_lsk, dLen_tup, dLen_lst, dLen_lsk, dLen_str, dIx_tup, dIx_lst, dIx_lsk, dIx_str, dAdd_int, dNeg_int, isN_def, notN_def, isNon_non, isNon_int, isNon_bl, isNon_str, isNon_tup, isNon_lst, isNon_obj, isNon_exc, dEq_int, dNe_int, dEq_str, dNe_str, dEq_bl, atI_zero, atI_one, atI_2, atI_3, atI_4, atI_5, atI_6, atI_7, atI_8, atI_9, atI_10, atI_11, atI_12, atI_m1, ev_gT, setAll_nil, setAll_cons, iOp_int, ev_gN, ev_ret, List.map_cons, List.map_nil, List.length_cons, List.length_nil, rep_zero, rep_succ, List.cons_append, List.nil_append, List.getElem?_cons_zero, List.getElem?_cons_succ, List.set_cons_zero, List.set_cons_succ, Nat.sub_self, Nat.reduceAdd, Nat.reduceSub, Option.map_some, Option.bind_some, if_true, Bool.not_true, Bool.not_false, Bool.false_eq_true, if_false, decide_true, decide_false, Int.reduceBEq, Int.reduceEq, Int.reduceLT, Int.reduceLE, Int.reduceNeg, Int.reduceAdd, Int.reduceSub, Int.reduceMul, Int.reduceToNat, Nat.reduceLT, Nat.reduceLeDiff, beq_self_eq_true, reduceIte, eq_self, Int.reduceNe, Int.reduceBNe, not_true_eq_false, not_false_eq_true, true_and, and_true, true_or, or_true, false_or, or_false, and_false, false_and, decide_eq_true_eq, Bool.true_and, Bool.and_true, Bool.false_and, Bool.and_false, Bool.true_or, Bool.or_true, Bool.false_or, Bool.or_false, t_slash, t_nil, isStr_str, dSplit_mk, mkS_beq, h1', dGt, List.length_map, g2, ev_lc, ev_iSeq, wipeD_nil, wipeD_cons, bndN, e3, dAll_map, hq, ev_raise, hn]
      | false => simp only [fnOf, ev_seq, ev_asg, sBnd_def, ev_op, ev_un, bnd_def, ev_call, evs_cons, evs_nil, ev_var, ev_c, ev_if, ev_next, ev_expr, ev_tru, ev_bl, ev_and, ev_or, ev_not, ev_yes, ev_andE, ev_orE, ev_notE, ev_ifE, ev_chain, ofB_some, ofO_some, ofO_none, truD_non, truD_bl, truD_int, truD_str, truD_tup, truD_lst, truD_lsk, ev_tup, ev_lst, ev_nwF, ev_nwM, ev_meth, ev_make, ev_fld, ev_setF, ev_bm1, asQ_tup, asQ_lst, asQ_lsk, asL_lst, asL_lsk, dLen_tup, dLen_lst, dLen_lsk, dLen_str, dIx_tup, dIx_lst, dIx_lsk, dIx_str, dAdd_int, dNeg_int, isN_def, notN_def, isNon_non, isNon_int, isNon_bl, isNon_str, isNon_tup, isNon_lst, isNon_obj, isNon_exc, dEq_int, dNe_int, dEq_str, dNe_str, dEq_bl, atI_zero, atI_one, atI_2, atI_3, atI_4, atI_5, atI_6, atI_7, atI_8, atI_9, atI_10, atI_11, atI_12, atI_m1, ev_gT, setAll_nil, setAll_cons, iOp_int, ev_gN, ev_ret, List.map_cons, List.map_nil, List.length_cons, List.length_nil, rep_zero, rep_succ, List.cons_append, List.nil_append, List.getElem?_cons_zero, List.getElem?_cons_succ, List.set_cons_zero, List.set_cons_succ, Nat.sub_self, Nat.reduceAdd, Nat.reduceSub, Option.map_some, Option.bind_some, if_true, Bool.not_true, Bool.not_false, Bool.false_eq_true, if_false, decide_true, decide_false, Int.reduceBEq, Int.reduceEq, Int.reduceLT, Int.reduceLE, Int.reduceNeg, Int.reduceAdd, Int.reduceSub, Int.reduceMul, Int.reduceToNat, Nat.reduceLT, Nat.reduceLeDiff, beq_self_eq_true, reduceIte, eq_self, Int.reduceNe, Int.reduceBNe, not_true_eq_false, not_false_eq_true, true_and, and_true, true_or, or_true, false_or, or_false, and_false, false_and, decide_eq_true_eq, Bool.true_and, Bool.and_true, Bool.false_and, Bool.and_false, Bool.true_or, Bool.or_true, Bool.false_or, Bool.or_false, t_slash, t_nil, isStr_str, dSplit_mk, mkS_beq, h1', dGt, List.length_map, g2, ev_lc, ev_iSeq, wipeD_nil, wipeD_cons, bndN, e3, dAll_map, hq, ev_raise, hn]
    · have g2 : (8 : Int) < (splC 47 l).length := by omega
      have hn : isName l = false := by unfold isName; rw [h1', decide_eq_false h2]; rfl
      simp only [fnOf, ev_seq, ev_asg, sBnd_def, ev_op, ev_un, bnd_def, ev_call, evs_cons, evs_nil, ev_var, ev_c, ev_if, ev_next, ev_expr, ev_tru, ev_bl, ev_and, ev_or, ev_not, ev_yes, ev_andE, ev_orE, ev_notE, ev_ifE, ev_chain, ofB_some, ofO_some, ofO_none, truD_non, truD_bl, truD_int, truD_str, truD_tup, truD_lst, truD_lsk, ev_tup, ev_lst, ev_nwF, ev_nwM, ev_meth, ev_make, ev_fld, ev_setF, ev_bm1, asQ_tup, asQ_lst, asQ_lsk, asL_lst, asL_lsk, dLen_tup, dLen_lst, dLen_lsk, dLen_str, dIx_tup, dIx_lst, dIx_lsk, dIx_str, dAdd_int, dNeg_int, isN_def, notN_def, isNon_non, isNon_int, isNon_bl, isNon_str, isNon_tup, isNon_lst, isNon_obj, isNon_exc, dEq_int, dNe_int, dEq_str, dNe_str, dEq_bl, atI_zero, atI_one, atI_2, atI_3, atI_4, atI_5, atI_6, atI_7, atI_8, atI_9, atI_10, atI_11, atI_12, atI_m1, ev_gT, setAll_nil, setAll_cons, iOp_int, ev_gN, ev_ret, List.map_cons, List.map_nil, List.length_cons, List.length_nil, rep_zero, rep_succ, List.cons_append, List.nil_append, List.getElem?_cons_zero, List.getElem?_cons_succ, List.set_cons_zero, List.set_cons_succ, Nat.sub_self, Nat.reduceAdd, Nat.reduceSub, Option.map_some, Option.bind_some, if_true, Bool.not_true, Bool.not_false, Bool.false_eq_true, if_false, decide_true, decide_false, Int.reduceBEq, Int.reduceEq, Int.reduceLT, Int.reduceLE, Int.reduceNeg, Int.reduceAdd, Int.reduceSub, Int.reduceMul, Int.reduceToNat, Nat.reduceLT, Nat.reduceLeDiff, beq_self_eq_true, reduceIte, eq_self, Int.reduceNe, Int.reduceBNe, not_true_eq_false, not_false_eq_true, true_and, and_true, true_or, or_true, false_or, or_false, and_false, false_and, decide_eq_true_eq, Bool.true_and, Bool.and_true, Bool.false_and, Bool.and_false, Bool.true_or, Bool.or_true, Bool.false_or, Bool.or_false, t_slash, t_nil, isStr_str, dSplit_mk, mkS_beq, h1', dGt, List.length_map, g2, ev_raise, hn]
/-! ### the law's draws -/
def cell (ns : List Int) (k : Int) : Int := if ns = [] then 0 else (ns[(k % ns.length).toNat]?).getD 0
def mixA (ns : List Int) (k : Int) : Int := (cell ns k + 104729 * (k + 1)) % 4294967291
def mixB (ns : List Int) (k : Int) : Int := mixA ns k ^ 5 % 4294967279
def mix (ns : List Int) (k : Int) : Int := (mixB ns k / 64 * 69621 + mixB ns k) % 4294967231
def dr (ns : List Int) (n : Nat) (many : Int) : Int := mix ns n / 8 % many
theorem dr_nonneg (ns : List Int) (n : Nat) {m : Int} (h : 0 < m) : 0 ≤ dr ns n m := Int.emod_nonneg _ (by omega)
theorem dr_lt (ns : List Int) (n : Nat) {m : Int} (h : 0 < m) : dr ns n m < m := Int.emod_lt_of_pos _ h
theorem mod_ok {m : Int} (h : 0 < m) (i : Int) : (0 ≤ i % m) ∧ (i % m < m) := ⟨Int.emod_nonneg _ (by omega), Int.emod_lt_of_pos _ h⟩
abbrev sc (ns : List Int) : Dt := .lsk (ns.map .int)
theorem ev_cell (ns : List Int) (k : Int) (s : Sto) (hk : 0 ≤ k) : m_law_cell [sc ns, .int k] s = .ok (.int (cell ns k)) s := by
  by_cases h : ns = []
  · subst h
    simp [m_law_cell, b_law_cell, fnOf, cell]
  · have hl : 0 < ns.length := List.length_pos_iff.mpr h
    have hm : (0 : Int) < ns.length := by omega
    obtain ⟨h1, h2⟩ := mod_ok hm k
    obtain ⟨j, hj⟩ : ∃ j : Nat, k % (ns.length : Int) = j := ⟨(k % (ns.length : Int)).toNat, by omega⟩
    have hj2 : j < ns.length := by omega
    have e : atI (ns.map Dt.int) (k % (ns.length : Int)) = some (.int (cell ns k)) := by
      rw [hj, atI_ofNat, List.getElem?_map, List.getElem?_eq_getElem hj2]
      simp [cell, h, hj, List.getElem?_eq_getElem hj2]
    have hm' : ¬ ns.isEmpty = true := by simpa using h
    simp [m_law_cell, b_law_cell, fnOf, h, hl, sc, e]
theorem ev_mix (ns : List Int) (k : Int) (s : Sto) (hk : 0 ≤ k) : m_law_mix [sc ns, .int k] s = .ok (.int (mix ns k)) s := by
  have h1 := mod_ok (m := 4294967291) (by decide) (cell ns k + 104729 * (k + 1))
  have h2 := mod_ok (m := 4294967279) (by decide) (mixA ns k ^ 5)
  have h3 : (mixA ns k).natAbs < 2 ^ 64 := by unfold mixA; omega
  have h5 : -(2 ^ 64) < mixB ns k / 64 ∧ mixB ns k / 64 < 2 ^ 64 := by unfold mixB; omega
  have e1 : m_law_cell [sc ns, .int k] s = .ok (.int (cell ns k)) s := ev_cell ns k s hk
  have e2 : decide ((-(2 ^ 64) < (104729 : Int) ∧ (104729 : Int) < 2 ^ 64) ∨ (-(2 ^ 64) < (k + 1) ∧ (k + 1) < 2 ^ 64)) = true := decide_eq_true (.inl (by decide))
  have e3 : decide ((0 : Int) ≤ 5 ∧ (5 : Int) ≤ 1000000 ∧ (mixA ns k).natAbs < 2 ^ 64) = true := decide_eq_true ⟨by decide, by decide, h3⟩
  have e4 : decide ((-(2 ^ 64) < mixB ns k / 64 ∧ mixB ns k / 64 < 2 ^ 64) ∨ (-(2 ^ 64) < (69621 : Int) ∧ (69621 : Int) < 2 ^ 64)) = true := decide_eq_true (.inl h5)
  have e5 : decide (0 < (64 : Int) ∧ (64 : Int) < 1073741824) = true := by decide
  have f1 : (cell ns k + 104729 * (k + 1)) % 4294967291 = mixA ns k := rfl
  have f2 : mixA ns k ^ (5 : Int).toNat % 4294967279 = mixB ns k := rfl
  have f3 : (mixB ns k / 64 * 69621 + mixB ns k) % 4294967231 = mix ns k := rfl
  have g1 : decide ((0 : Int) < 4294967291) = true := by decide
  have g2 : decide ((0 : Int) < 4294967279) = true := by decide
  have g3 : decide ((0 : Int) < 4294967231) = true := by decide
  unfold m_law_mix b_law_mix
  simp only [fnOf, ev_seq, ev_asg, sBnd_def, ev_op, ev_un, bnd_def, ev_call, evs_cons, evs_nil, ev_var, ev_c, ev_if, ev_next, ev_expr, ev_tru, ev_bl, ev_and, ev_or, ev_not, ev_yes, ev_andE, ev_orE, ev_notE, ev_ifE, ev_chain, ofB_some, ofO_some, ofO_none, truD_non, truD_bl, truD_int, truD_str, truD_tup, truD_lst, truD_lsk, ev_tup, ev_lst, ev_nwF, ev_nwM, ev_meth, ev_make, ev_fld, ev_setF, ev_bm1, asQ_tup, asQ_lst, asQ_lsk, asL_lst, asL_lsk, dLen_tup, dLen_lst, dLen_lsk, dLen_str, dIx_tup, dIx_lst, dIx_lsk, dIx_str, dAdd_int, dNeg_int, isN_def, notN_def, isNon_non, isNon_int, isNon_bl, isNon_str, isNon_tup, isNon_lst, isNon_obj, isNon_exc, dEq_int, dNe_int, dEq_str, dNe_str, dEq_bl, atI_zero, atI_one, atI_2, atI_3, atI_4, atI_5, atI_6, atI_7, atI_8, atI_9, atI_10, atI_11, atI_12, atI_m1, ev_gT, setAll_nil, setAll_cons, iOp_int, ev_gN, ev_ret, List.map_cons, List.map_nil, List.length_cons, List.length_nil, rep_zero, rep_succ, List.cons_append, List.nil_append, List.getElem?_cons_zero, List.getElem?_cons_succ, List.set_cons_zero, List.set_cons_succ, Nat.sub_self, Nat.reduceAdd, Nat.reduceSub, Option.map_some, Option.bind_some, if_true, Bool.not_true, Bool.not_false, Bool.false_eq_true, if_false, decide_true, e1, e2, f1, e3, f2, e5, e4, f3, g1, g2, g3]
theorem ev_draw (ns : List Int) {t N : Nat} {many : Int} {R : List SP} {s : Sto} (o : Own (Tw t N :: R) s) (hN : N < 900000) (hm : 0 < many) :
    ∃ v : Nat, (v : Int) < many ∧ ∃ s', m_law_draw [sc ns, .obj t, .int many] s = .ok (.int v) s' ∧ Own (Tw t (N + 1) :: R) s' := by
  obtain ⟨n, hn, o⟩ := own_tw.mp o
  have ht := o.get
  have h1 := isLst_obj ht
  have h2 := dApp_at (y := .int 0) ht (by rw [List.length_replicate]; omega)
  rw [zeros_app] at h2
  have o2 := o.set (zs (n + 1))
  have h3 : dLen (.obj t) (s.set t (zs (n + 1))) = .ok (.int ((n + 1 : Nat) : Int)) (s.set t (zs (n + 1))) := by
    rw [dLen_obj (l := List.replicate (n + 1) (.int 0)) o2.get, List.length_replicate]
  have h4 := ev_mix ns ((n + 1 : Nat) : Int) (s.set t (zs (n + 1))) (Int.natCast_nonneg _)
  have f1 : mix ns ((n + 1 : Nat) : Int) / 8 % many = dr ns (n + 1) many := rfl
  have g1 : decide (0 < (8 : Int) ∧ (8 : Int) < 1073741824) = true := by decide
  have g2 : decide (0 < many) = true := decide_eq_true hm
  obtain ⟨v, hv⟩ : ∃ v : Nat, dr ns (n + 1) many = v := ⟨(dr ns (n + 1) many).toNat, by have := dr_nonneg ns (n + 1) hm; omega⟩
  refine ⟨v, by have := dr_lt ns (n + 1) hm; omega, _, ?_, own_tw.mpr ⟨n + 1, by omega, o2⟩⟩
  unfold m_law_draw b_law_draw
  simp only [fnOf, ev_seq, ev_asg, sBnd_def, ev_op, ev_un, bnd_def, ev_call, evs_cons, evs_nil, ev_var, ev_c, ev_if, ev_next, ev_expr, ev_tru, ev_bl, ev_and, ev_or, ev_not, ev_yes, ev_andE, ev_orE, ev_notE, ev_ifE, ev_chain, ofB_some, ofO_some, ofO_none, truD_non, truD_bl, truD_int, truD_str, truD_tup, truD_lst, truD_lsk, ev_tup, ev_lst, ev_nwF, ev_nwM, ev_meth, ev_make, ev_fld, ev_setF, ev_bm1, asQ_tup, asQ_lst, asQ_lsk, asL_lst, asL_lsk, dLen_tup, dLen_lst, dLen_lsk, dLen_str, dIx_tup, dIx_lst, dIx_lsk, dIx_str, dAdd_int, dNeg_int, isN_def, notN_def, isNon_non, isNon_int, isNon_bl, isNon_str, isNon_tup, isNon_lst, isNon_obj, isNon_exc, dEq_int, dNe_int, dEq_str, dNe_str, dEq_bl, atI_zero, atI_one, atI_2, atI_3, atI_4, atI_5, atI_6, atI_7, atI_8, atI_9, atI_10, atI_11, atI_12, atI_m1, ev_gT, setAll_nil, setAll_cons, iOp_int, ev_gN, ev_ret, List.map_cons, List.map_nil, List.length_cons, List.length_nil, rep_zero, rep_succ, List.cons_append, List.nil_append, List.getElem?_cons_zero, List.getElem?_cons_succ, List.set_cons_zero, List.set_cons_succ, Nat.sub_self, Nat.reduceAdd, Nat.reduceSub, Option.map_some, Option.bind_some, if_true, Bool.not_true, Bool.not_false, Bool.false_eq_true, if_false, decide_true, h1, h2, h3, h4, f1, g1, g2, hv]
/-! ### givers -/
structure Td where
  nm : Dt
  bd : Dt
  g : Int
  kp : Dt
def Td.d (t : Td) : Dt := .tup [t.nm, t.bd, .int t.g, t.kp]
structure Fy where
  n : Int
  g : Int
  t : Option Td
def optD : Option Td → Dt
  | some t => t.d
  | none => .non
def Fy.d (f : Fy) : Dt := .tup [.int f.n, .int f.g, optD f.t]
structure Gv where
  win : Int
  most : Int
  last : Int
  waits : List Td
  flies : List Fy
def insG (g : Gv) (w f : Nat) : Mo := .ins 0 [.int g.win, .int g.most, .int g.last, .obj w, .obj f]
def GvA (i : Nat) (g : Gv) : SP := Exi fun w => Exi fun f => Sts [At i (insG g w f), At w (.lst (g.waits.map Td.d)), At f (.lst (g.flies.map Fy.d))]
theorem own_gv {i : Nat} {g : Gv} {R : List SP} {s : Sto} : Own (GvA i g :: R) s ↔ ∃ w f, Own (At i (insG g w f) :: At w (.lst (g.waits.map Td.d)) :: At f (.lst (g.flies.map Fy.d)) :: R) s := by
  unfold GvA
  simp only [own_ex, own_sts]
  rfl
def Gv.used (g : Gv) : List Int := g.flies.map (·.n)
/-! the next number -/
def stp (most a : Int) : Int := if a < most then a + 1 else 1
def ch (most : Int) : Int → List Int → Prop
  | _, [] => True
  | a, b :: r => b = stp most a ∧ ch most b r
def fre (used : List Int) (n : Int) : Bool := !used.contains n
theorem dIn_lints {s : Sto} {a : List Int} {x : Int} : dIn (.int x) (.lst (a.map .int)) s = .ok (.bl (a.contains x)) s := by
  have hf : (a.map Dt.int).all flatD = true := by simp [flatD]
  have he : ((a.map Dt.int).any fun e => feq e (.int x)) = a.contains x := by
    rw [List.any_map, Bool.eq_iff_iff, List.any_eq_true]
    simp [feq]
  simp only [dIn, inB, asQ_lst, hf, he]
  rfl
theorem set_get {s : Sto} {i : Nat} {m m' : Mo} (h : s[i]? = some m) : (s.set i m')[i]? = some m' := List.getElem?_set_self (List.getElem?_eq_some_iff.mp h).1
theorem put_last {g : Gv} {w f : Nat} {x : Int} : putI 2 (.int x) [Dt.int g.win, .int g.most, .int g.last, .obj w, .obj f] = [Dt.int g.win, .int g.most, .int x, .obj w, .obj f] := rfl
theorem num_body {i w f : Nat} {g : Gv} {s : Sto} {env : En} (h0 : env[0]? = some (some (.obj i))) (h1 : s[i]? = some (insG g w f)) : sSetF 0 2 (eVar 0) (eIf (tBl (eOp dLt (eFld 0 2 (eVar 0)) (eFld 0 1 (eVar 0)))) (eOp (dAdd nwF) (eFld 0 2 (eVar 0)) (eC (.int 1))) (eC (.int 1))) env s = .fl (.nx env) (s.set i (insG { g with last := stp g.most g.last } w f)) := by
  have e1 := insD_obj h1
  have e2 := setFD_obj (i := 2) (y := .int (stp g.most g.last)) h1 (by simp)
  rw [put_last] at e2
  by_cases h : g.last < g.most
  · have e3 : stp g.most g.last = g.last + 1 := if_pos h
    rw [e3] at e2
    simp only [fnOf, ev_seq, ev_asg, sBnd_def, ev_op, ev_un, bnd_def, ev_call, evs_cons, evs_nil, ev_var, ev_c, ev_if, ev_next, ev_expr, ev_tru, ev_bl, ev_and, ev_or, ev_not, ev_yes, ev_andE, ev_orE, ev_notE, ev_ifE, ev_chain, ofB_some, ofO_some, ofO_none, truD_non, truD_bl, truD_int, truD_str, truD_tup, truD_lst, truD_lsk, ev_tup, ev_lst, ev_nwF, ev_nwM, ev_meth, ev_make, ev_fld, ev_setF, ev_bm1, asQ_tup, asQ_lst, asQ_lsk, asL_lst, asL_lsk, dLen_tup, dLen_lst, dLen_lsk, dLen_str, dIx_tup, dIx_lst, dIx_lsk, dIx_str, dAdd_int, dNeg_int, isN_def, notN_def, isNon_non, isNon_int, isNon_bl, isNon_str, isNon_tup, isNon_lst, isNon_obj, isNon_exc, dEq_int, dNe_int, dEq_str, dNe_str, dEq_bl, atI_zero, atI_one, atI_2, atI_3, atI_4, atI_5, atI_6, atI_7, atI_8, atI_9, atI_10, atI_11, atI_12, atI_m1, ev_gT, setAll_nil, setAll_cons, iOp_int, ev_gN, ev_ret, List.map_cons, List.map_nil, List.length_cons, List.length_nil, rep_zero, rep_succ, List.cons_append, List.nil_append, List.getElem?_cons_zero, List.getElem?_cons_succ, List.set_cons_zero, List.set_cons_succ, Nat.sub_self, Nat.reduceAdd, Nat.reduceSub, Option.map_some, Option.bind_some, if_true, Bool.not_true, Bool.not_false, Bool.false_eq_true, if_false, decide_true, decide_false, Int.reduceBEq, Int.reduceEq, Int.reduceLT, Int.reduceLE, Int.reduceNeg, Int.reduceAdd, Int.reduceSub, Int.reduceMul, Int.reduceToNat, Nat.reduceLT, Nat.reduceLeDiff, beq_self_eq_true, reduceIte, eq_self, Int.reduceNe, Int.reduceBNe, not_true_eq_false, not_false_eq_true, true_and, and_true, true_or, or_true, false_or, or_false, and_false, false_and, decide_eq_true_eq, Bool.true_and, Bool.and_true, Bool.false_and, Bool.and_false, Bool.true_or, Bool.or_true, Bool.false_or, Bool.or_false, h0, e1, h, e2, e3]
    rfl
  · have e3 : stp g.most g.last = 1 := if_neg h
    rw [e3] at e2
    simp only [fnOf, ev_seq, ev_asg, sBnd_def, ev_op, ev_un, bnd_def, ev_call, evs_cons, evs_nil, ev_var, ev_c, ev_if, ev_next, ev_expr, ev_tru, ev_bl, ev_and, ev_or, ev_not, ev_yes, ev_andE, ev_orE, ev_notE, ev_ifE, ev_chain, ofB_some, ofO_some, ofO_none, truD_non, truD_bl, truD_int, truD_str, truD_tup, truD_lst, truD_lsk, ev_tup, ev_lst, ev_nwF, ev_nwM, ev_meth, ev_make, ev_fld, ev_setF, ev_bm1, asQ_tup, asQ_lst, asQ_lsk, asL_lst, asL_lsk, dLen_tup, dLen_lst, dLen_lsk, dLen_str, dIx_tup, dIx_lst, dIx_lsk, dIx_str, dAdd_int, dNeg_int, isN_def, notN_def, isNon_non, isNon_int, isNon_bl, isNon_str, isNon_tup, isNon_lst, isNon_obj, isNon_exc, dEq_int, dNe_int, dEq_str, dNe_str, dEq_bl, atI_zero, atI_one, atI_2, atI_3, atI_4, atI_5, atI_6, atI_7, atI_8, atI_9, atI_10, atI_11, atI_12, atI_m1, ev_gT, setAll_nil, setAll_cons, iOp_int, ev_gN, ev_ret, List.map_cons, List.map_nil, List.length_cons, List.length_nil, rep_zero, rep_succ, List.cons_append, List.nil_append, List.getElem?_cons_zero, List.getElem?_cons_succ, List.set_cons_zero, List.set_cons_succ, Nat.sub_self, Nat.reduceAdd, Nat.reduceSub, Option.map_some, Option.bind_some, if_true, Bool.not_true, Bool.not_false, Bool.false_eq_true, if_false, decide_true, decide_false, Int.reduceBEq, Int.reduceEq, Int.reduceLT, Int.reduceLE, Int.reduceNeg, Int.reduceAdd, Int.reduceSub, Int.reduceMul, Int.reduceToNat, Nat.reduceLT, Nat.reduceLeDiff, beq_self_eq_true, reduceIte, eq_self, Int.reduceNe, Int.reduceBNe, not_true_eq_false, not_false_eq_true, true_and, and_true, true_or, or_true, false_or, or_false, and_false, false_and, decide_eq_true_eq, Bool.true_and, Bool.and_true, Bool.false_and, Bool.and_false, Bool.true_or, Bool.or_true, Bool.false_or, Bool.or_false, h0, e1, h, e2, e3]
    rfl
theorem num_wh {i w f : Nat} {s : Sto} {env : En} {used : List Int} {x : Int} (h0 : env[0]? = some (some (.obj i))) (h4 : env[1]? = some (some (.lst (used.map .int)))) : ∀ (L : List Int) (fuel : Nat) (g : Gv), s[i]? = some (insG g w f) → L.length + 1 < fuel → ch g.most g.last L →
    (if fre used g.last then some g.last else L.find? (fre used)) = some x → whGo (tBl (eOp dIn (eFld 0 2 (eVar 0)) (eVar 1))) l_Giver_number_1 fuel env s = .fl (.nx env) (s.set i (insG { g with last := x } w f)) := by
  intro L
  induction L generalizing s with
  | nil =>
    intro fuel g h1 hf _ hx
    obtain ⟨m, rfl⟩ : ∃ m, fuel = m + 1 := ⟨fuel - 1, by omega⟩
    have e1 := insD_obj h1
    split at hx
    · rename_i hfr
      cases hx
      have hfr : used.contains g.last = false := by simpa [fre] using hfr
      have e2 : s.set i (insG { g with last := g.last } w f) = s := by
        apply List.ext_getElem?
        intro j
        by_cases e : i = j
        · subst e; rw [set_get h1, h1]
        · rw [List.getElem?_set_ne e]
      unfold whGo
      simp only [fnOf, ev_seq, ev_asg, sBnd_def, ev_op, ev_un, bnd_def, ev_call, evs_cons, evs_nil, ev_var, ev_c, ev_if, ev_next, ev_expr, ev_tru, ev_bl, ev_and, ev_or, ev_not, ev_yes, ev_andE, ev_orE, ev_notE, ev_ifE, ev_chain, ofB_some, ofO_some, ofO_none, truD_non, truD_bl, truD_int, truD_str, truD_tup, truD_lst, truD_lsk, ev_tup, ev_lst, ev_nwF, ev_nwM, ev_meth, ev_make, ev_fld, ev_setF, ev_bm1, asQ_tup, asQ_lst, asQ_lsk, asL_lst, asL_lsk, dLen_tup, dLen_lst, dLen_lsk, dLen_str, dIx_tup, dIx_lst, dIx_lsk, dIx_str, dAdd_int, dNeg_int, isN_def, notN_def, isNon_non, isNon_int, isNon_bl, isNon_str, isNon_tup, isNon_lst, isNon_obj, isNon_exc, dEq_int, dNe_int, dEq_str, dNe_str, dEq_bl, atI_zero, atI_one, atI_2, atI_3, atI_4, atI_5, atI_6, atI_7, atI_8, atI_9, atI_10, atI_11, atI_12, atI_m1, ev_gT, setAll_nil, setAll_cons, iOp_int, ev_gN, ev_ret, List.map_cons, List.map_nil, List.length_cons, List.length_nil, rep_zero, rep_succ, List.cons_append, List.nil_append, List.getElem?_cons_zero, List.getElem?_cons_succ, List.set_cons_zero, List.set_cons_succ, Nat.sub_self, Nat.reduceAdd, Nat.reduceSub, Option.map_some, Option.bind_some, if_true, Bool.not_true, Bool.not_false, Bool.false_eq_true, if_false, decide_true, decide_false, Int.reduceBEq, Int.reduceEq, Int.reduceLT, Int.reduceLE, Int.reduceNeg, Int.reduceAdd, Int.reduceSub, Int.reduceMul, Int.reduceToNat, Nat.reduceLT, Nat.reduceLeDiff, beq_self_eq_true, reduceIte, eq_self, Int.reduceNe, Int.reduceBNe, not_true_eq_false, not_false_eq_true, true_and, and_true, true_or, or_true, false_or, or_false, and_false, false_and, decide_eq_true_eq, Bool.true_and, Bool.and_true, Bool.false_and, Bool.and_false, Bool.true_or, Bool.or_true, Bool.false_or, Bool.or_false, h0, h4, e1, dIn_lints, hfr, e2]
    · simp at hx
  | cons b L ih =>
    intro fuel g h1 hf hc hx
    obtain ⟨m, rfl⟩ : ∃ m, fuel = m + 1 := ⟨fuel - 1, by omega⟩
    have e1 := insD_obj h1
    split at hx
    · rename_i hfr
      cases hx
      have hfr : used.contains g.last = false := by simpa [fre] using hfr
      have e2 : s.set i (insG { g with last := g.last } w f) = s := by
        apply List.ext_getElem?
        intro j
        by_cases e : i = j
        · subst e; rw [set_get h1, h1]
        · rw [List.getElem?_set_ne e]
      unfold whGo
      simp only [fnOf, ev_seq, ev_asg, sBnd_def, ev_op, ev_un, bnd_def, ev_call, evs_cons, evs_nil, ev_var, ev_c, ev_if, ev_next, ev_expr, ev_tru, ev_bl, ev_and, ev_or, ev_not, ev_yes, ev_andE, ev_orE, ev_notE, ev_ifE, ev_chain, ofB_some, ofO_some, ofO_none, truD_non, truD_bl, truD_int, truD_str, truD_tup, truD_lst, truD_lsk, ev_tup, ev_lst, ev_nwF, ev_nwM, ev_meth, ev_make, ev_fld, ev_setF, ev_bm1, asQ_tup, asQ_lst, asQ_lsk, asL_lst, asL_lsk, dLen_tup, dLen_lst, dLen_lsk, dLen_str, dIx_tup, dIx_lst, dIx_lsk, dIx_str, dAdd_int, dNeg_int, isN_def, notN_def, isNon_non, isNon_int, isNon_bl, isNon_str, isNon_tup, isNon_lst, isNon_obj, isNon_exc, dEq_int, dNe_int, dEq_str, dNe_str, dEq_bl, atI_zero, atI_one, atI_2, atI_3, atI_4, atI_5, atI_6, atI_7, atI_8, atI_9, atI_10, atI_11, atI_12, atI_m1, ev_gT, setAll_nil, setAll_cons, iOp_int, ev_gN, ev_ret, List.map_cons, List.map_nil, List.length_cons, List.length_nil, rep_zero, rep_succ, List.cons_append, List.nil_append, List.getElem?_cons_zero, List.getElem?_cons_succ, List.set_cons_zero, List.set_cons_succ, Nat.sub_self, Nat.reduceAdd, Nat.reduceSub, Option.map_some, Option.bind_some, if_true, Bool.not_true, Bool.not_false, Bool.false_eq_true, if_false, decide_true, decide_false, Int.reduceBEq, Int.reduceEq, Int.reduceLT, Int.reduceLE, Int.reduceNeg, Int.reduceAdd, Int.reduceSub, Int.reduceMul, Int.reduceToNat, Nat.reduceLT, Nat.reduceLeDiff, beq_self_eq_true, reduceIte, eq_self, Int.reduceNe, Int.reduceBNe, not_true_eq_false, not_false_eq_true, true_and, and_true, true_or, or_true, false_or, or_false, and_false, false_and, decide_eq_true_eq, Bool.true_and, Bool.and_true, Bool.false_and, Bool.and_false, Bool.true_or, Bool.or_true, Bool.false_or, Bool.or_false, h0, h4, e1, dIn_lints, hfr, e2]
    · rename_i hfr
      have hfr : used.contains g.last = true := by simpa [fre] using hfr
      obtain ⟨c1, c2⟩ := hc
      have hb := num_body (env := env) h0 h1
      have := ih (s := s.set i (insG { g with last := stp g.most g.last } w f)) m { g with last := stp g.most g.last } (set_get h1) (by simp at hf; omega) (by rw [← c1]; exact c2) (by
        rw [List.find?_cons] at hx
        simp only
        rw [← c1]
        cases e : fre used b with
        | true => rw [e] at hx; simpa using hx
        | false => rw [e] at hx; simpa using hx)
      rw [List.set_set] at this
      unfold whGo
      simp only [fnOf, ev_seq, ev_asg, sBnd_def, ev_op, ev_un, bnd_def, ev_call, evs_cons, evs_nil, ev_var, ev_c, ev_if, ev_next, ev_expr, ev_tru, ev_bl, ev_and, ev_or, ev_not, ev_yes, ev_andE, ev_orE, ev_notE, ev_ifE, ev_chain, ofB_some, ofO_some, ofO_none, truD_non, truD_bl, truD_int, truD_str, truD_tup, truD_lst, truD_lsk, ev_tup, ev_lst, ev_nwF, ev_nwM, ev_meth, ev_make, ev_fld, ev_setF, ev_bm1, asQ_tup, asQ_lst, asQ_lsk, asL_lst, asL_lsk, dLen_tup, dLen_lst, dLen_lsk, dLen_str, dIx_tup, dIx_lst, dIx_lsk, dIx_str, dAdd_int, dNeg_int, isN_def, notN_def, isNon_non, isNon_int, isNon_bl, isNon_str, isNon_tup, isNon_lst, isNon_obj, isNon_exc, dEq_int, dNe_int, dEq_str, dNe_str, dEq_bl, atI_zero, atI_one, atI_2, atI_3, atI_4, atI_5, atI_6, atI_7, atI_8, atI_9, atI_10, atI_11, atI_12, atI_m1, ev_gT, setAll_nil, setAll_cons, iOp_int, ev_gN, ev_ret, List.map_cons, List.map_nil, List.length_cons, List.length_nil, rep_zero, rep_succ, List.cons_append, List.nil_append, List.getElem?_cons_zero, List.getElem?_cons_succ, List.set_cons_zero, List.set_cons_succ, Nat.sub_self, Nat.reduceAdd, Nat.reduceSub, Option.map_some, Option.bind_some, if_true, Bool.not_true, Bool.not_false, Bool.false_eq_true, if_false, decide_true, decide_false, Int.reduceBEq, Int.reduceEq, Int.reduceLT, Int.reduceLE, Int.reduceNeg, Int.reduceAdd, Int.reduceSub, Int.reduceMul, Int.reduceToNat, Nat.reduceLT, Nat.reduceLeDiff, beq_self_eq_true, reduceIte, eq_self, Int.reduceNe, Int.reduceBNe, not_true_eq_false, not_false_eq_true, true_and, and_true, true_or, or_true, false_or, or_false, and_false, false_and, decide_eq_true_eq, Bool.true_and, Bool.and_true, Bool.false_and, Bool.and_false, Bool.true_or, Bool.or_true, Bool.false_or, Bool.or_false, h0, h4, e1, dIn_lints, hfr]
      unfold l_Giver_number_1
      rw [hb]
      exact this
theorem used_lc {s : Sto} {f i : Nat} {fl : List Fy} (h2 : s[f]? = some (.lst (fl.map Fy.d))) {env : En} (hl : 2 < env.length) : lcGo (gN 2) Pd.tYes (eOp dIx (eVar 2) (eC (.int 0))) (fun s' => asQ s' (.obj f) = some (fl.map Fy.d)) (fl.map Fy.d) env s = .ok (fl.map fun x => .int x.n) s := by
  refine lc_map (asQ_obj h2) fun a _ => ⟨_, rfl, rfl, ?_⟩
  have : (env.set 2 (some a.d))[2]? = some (some a.d) := List.getElem?_set_self hl
  simp only [ev_op, bnd_def, ev_var, this, ev_c]
  simp only [Fy.d, dIx_tup, atI_zero, List.getElem?_cons_zero, ofO_some]
theorem ev_number {i w f : Nat} {g : Gv} {s : Sto} {L : List Int} {x : Int} (h1 : s[i]? = some (insG g w f)) (h2 : s[f]? = some (.lst (g.flies.map Fy.d))) (hL : ch g.most g.last L) (hx : L.find? (fre g.used) = some x) (hl : L.length ≤ 70000) :
    m_Giver_number [.obj i] s = .ok (.int x) (s.set i (insG { g with last := x } w f)) := by
  have e1 := insD_obj h1
  have e2 := asQ_obj h2
  have e3 := used_lc h2 (i := i) (env := [some (.obj i), none, none]) (by simp)
  have hu : (g.flies.map fun x => Dt.int x.n) = g.used.map .int := by simp [Gv.used]
  rw [hu] at e3
  cases L with
  | nil => simp at hx
  | cons b L =>
    obtain ⟨c1, c2⟩ := hL
    have hb := num_body (env := [some (.obj i), some (.lst (g.used.map .int)), none]) rfl h1
    have hw := num_wh (env := [some (.obj i), some (.lst (g.used.map .int)), none]) (used := g.used) (x := x) rfl rfl L 100000 { g with last := stp g.most g.last } (s := s.set i (insG { g with last := stp g.most g.last } w f)) (set_get h1) (by simp at hl; omega) (by rw [← c1]; exact c2) (by
      rw [List.find?_cons] at hx
      simp only
      rw [← c1]
      cases e : fre g.used b with
      | true => rw [e] at hx; simpa using hx
      | false => rw [e] at hx; simpa using hx)
    rw [List.set_set] at hw
    have e4 := insD_obj (set_get (m' := insG { g with last := x } w f) h1)
    have f1 : u_Giver_number_1 [some (.obj i), none, none] s = .fl (.nx [some (.obj i), some (.lst (g.used.map .int)), none]) s := by
      unfold u_Giver_number_1
      simp only [fnOf, ev_seq, ev_asg, sBnd_def, ev_op, ev_un, bnd_def, ev_call, evs_cons, evs_nil, ev_var, ev_c, ev_if, ev_next, ev_expr, ev_tru, ev_bl, ev_and, ev_or, ev_not, ev_yes, ev_andE, ev_orE, ev_notE, ev_ifE, ev_chain, ofB_some, ofO_some, ofO_none, truD_non, truD_bl, truD_int, truD_str, truD_tup, truD_lst, truD_lsk, ev_tup, ev_lst, ev_nwF, ev_nwM, ev_meth, ev_make, ev_fld, ev_setF, ev_bm1, asQ_tup, asQ_lst, asQ_lsk, asL_lst, asL_lsk, dLen_tup, dLen_lst, dLen_lsk, dLen_str, dIx_tup, dIx_lst, dIx_lsk, dIx_str, dAdd_int, dNeg_int, isN_def, notN_def, isNon_non, isNon_int, isNon_bl, isNon_str, isNon_tup, isNon_lst, isNon_obj, isNon_exc, dEq_int, dNe_int, dEq_str, dNe_str, dEq_bl, atI_zero, atI_one, atI_2, atI_3, atI_4, atI_5, atI_6, atI_7, atI_8, atI_9, atI_10, atI_11, atI_12, atI_m1, ev_gT, setAll_nil, setAll_cons, iOp_int, ev_gN, ev_ret, List.map_cons, List.map_nil, List.length_cons, List.length_nil, rep_zero, rep_succ, List.cons_append, List.nil_append, List.getElem?_cons_zero, List.getElem?_cons_succ, List.set_cons_zero, List.set_cons_succ, Nat.sub_self, Nat.reduceAdd, Nat.reduceSub, Option.map_some, Option.bind_some, if_true, Bool.not_true, Bool.not_false, Bool.false_eq_true, if_false, decide_true, decide_false, Int.reduceBEq, Int.reduceEq, Int.reduceLT, Int.reduceLE, Int.reduceNeg, Int.reduceAdd, Int.reduceSub, Int.reduceMul, Int.reduceToNat, Nat.reduceLT, Nat.reduceLeDiff, beq_self_eq_true, reduceIte, eq_self, Int.reduceNe, Int.reduceBNe, not_true_eq_false, not_false_eq_true, true_and, and_true, true_or, or_true, false_or, or_false, and_false, false_and, decide_eq_true_eq, Bool.true_and, Bool.and_true, Bool.false_and, Bool.and_false, Bool.true_or, Bool.or_true, Bool.false_or, Bool.or_false, ev_lc, ev_iSeq, wipeD_nil, wipeD_cons, bndN, e1, e2, e3]
    have f4 : u_Giver_number_4 [some (.obj i), some (.lst (g.used.map .int)), none] (s.set i (insG { g with last := x } w f)) = .fl (.rt (.int x)) (s.set i (insG { g with last := x } w f)) := by
      unfold u_Giver_number_4
      simp only [fnOf, ev_seq, ev_asg, sBnd_def, ev_op, ev_un, bnd_def, ev_call, evs_cons, evs_nil, ev_var, ev_c, ev_if, ev_next, ev_expr, ev_tru, ev_bl, ev_and, ev_or, ev_not, ev_yes, ev_andE, ev_orE, ev_notE, ev_ifE, ev_chain, ofB_some, ofO_some, ofO_none, truD_non, truD_bl, truD_int, truD_str, truD_tup, truD_lst, truD_lsk, ev_tup, ev_lst, ev_nwF, ev_nwM, ev_meth, ev_make, ev_fld, ev_setF, ev_bm1, asQ_tup, asQ_lst, asQ_lsk, asL_lst, asL_lsk, dLen_tup, dLen_lst, dLen_lsk, dLen_str, dIx_tup, dIx_lst, dIx_lsk, dIx_str, dAdd_int, dNeg_int, isN_def, notN_def, isNon_non, isNon_int, isNon_bl, isNon_str, isNon_tup, isNon_lst, isNon_obj, isNon_exc, dEq_int, dNe_int, dEq_str, dNe_str, dEq_bl, atI_zero, atI_one, atI_2, atI_3, atI_4, atI_5, atI_6, atI_7, atI_8, atI_9, atI_10, atI_11, atI_12, atI_m1, ev_gT, setAll_nil, setAll_cons, iOp_int, ev_gN, ev_ret, List.map_cons, List.map_nil, List.length_cons, List.length_nil, rep_zero, rep_succ, List.cons_append, List.nil_append, List.getElem?_cons_zero, List.getElem?_cons_succ, List.set_cons_zero, List.set_cons_succ, Nat.sub_self, Nat.reduceAdd, Nat.reduceSub, Option.map_some, Option.bind_some, if_true, Bool.not_true, Bool.not_false, Bool.false_eq_true, if_false, decide_true, decide_false, Int.reduceBEq, Int.reduceEq, Int.reduceLT, Int.reduceLE, Int.reduceNeg, Int.reduceAdd, Int.reduceSub, Int.reduceMul, Int.reduceToNat, Nat.reduceLT, Nat.reduceLeDiff, beq_self_eq_true, reduceIte, eq_self, Int.reduceNe, Int.reduceBNe, not_true_eq_false, not_false_eq_true, true_and, and_true, true_or, or_true, false_or, or_false, and_false, false_and, decide_eq_true_eq, Bool.true_and, Bool.and_true, Bool.false_and, Bool.and_false, Bool.true_or, Bool.or_true, Bool.false_or, Bool.or_false, e4]
    unfold m_Giver_number b_Giver_number
    simp only [fnOf, ev_seq, ev_asg, sBnd_def, ev_op, ev_un, bnd_def, ev_call, evs_cons, evs_nil, ev_var, ev_c, ev_if, ev_next, ev_expr, ev_tru, ev_bl, ev_and, ev_or, ev_not, ev_yes, ev_andE, ev_orE, ev_notE, ev_ifE, ev_chain, ofB_some, ofO_some, ofO_none, truD_non, truD_bl, truD_int, truD_str, truD_tup, truD_lst, truD_lsk, ev_tup, ev_lst, ev_nwF, ev_nwM, ev_meth, ev_make, ev_fld, ev_setF, ev_bm1, asQ_tup, asQ_lst, asQ_lsk, asL_lst, asL_lsk, dLen_tup, dLen_lst, dLen_lsk, dLen_str, dIx_tup, dIx_lst, dIx_lsk, dIx_str, dAdd_int, dNeg_int, isN_def, notN_def, isNon_non, isNon_int, isNon_bl, isNon_str, isNon_tup, isNon_lst, isNon_obj, isNon_exc, dEq_int, dNe_int, dEq_str, dNe_str, dEq_bl, atI_zero, atI_one, atI_2, atI_3, atI_4, atI_5, atI_6, atI_7, atI_8, atI_9, atI_10, atI_11, atI_12, atI_m1, ev_gT, setAll_nil, setAll_cons, iOp_int, ev_gN, ev_ret, List.map_cons, List.map_nil, List.length_cons, List.length_nil, rep_zero, rep_succ, List.cons_append, List.nil_append, List.getElem?_cons_zero, List.getElem?_cons_succ, List.set_cons_zero, List.set_cons_succ, Nat.sub_self, Nat.reduceAdd, Nat.reduceSub, Option.map_some, Option.bind_some, if_true, Bool.not_true, Bool.not_false, Bool.false_eq_true, if_false, decide_true, decide_false, Int.reduceBEq, Int.reduceEq, Int.reduceLT, Int.reduceLE, Int.reduceNeg, Int.reduceAdd, Int.reduceSub, Int.reduceMul, Int.reduceToNat, Nat.reduceLT, Nat.reduceLeDiff, beq_self_eq_true, reduceIte, eq_self, Int.reduceNe, Int.reduceBNe, not_true_eq_false, not_false_eq_true, true_and, and_true, true_or, or_true, false_or, or_false, and_false, false_and, decide_eq_true_eq, Bool.true_and, Bool.and_true, Bool.false_and, Bool.and_false, Bool.true_or, Bool.or_true, Bool.false_or, Bool.or_false, f1, show u_Giver_number_2 [some (.obj i), some (.lst (g.used.map .int)), none] s = _ from hb, show u_Giver_number_3 [some (.obj i), some (.lst (g.used.map .int)), none] (s.set i (insG { g with last := stp g.most g.last } w f)) = _ from hw, f4]
/-! ### pumping -/
def sayD (t : Td) (ag : Bool) (n : Int) : Dt := .tup [.str (Str.ofString "say"), t.nm, t.bd, .int t.g, t.kp, .bl ag, .int n]
/-- the turn of the numbers behind the last one -/
def turnL (last most : Int) : List Int := (List.range (most - last).toNat).map (fun (k : Nat) => last + 1 + k) ++ (List.range last.toNat).map fun (k : Nat) => 1 + (k : Int)
def Gv.num (g : Gv) : Int := ((turnL g.last g.most).find? (fre g.used)).getD 0
/-- the next one is under way -/
def Gv.go (g : Gv) (t : Td) (r : List Td) : Gv := { g with last := g.num, waits := r, flies := g.flies ++ [⟨g.num, t.g, some t⟩] }
def pumpG (win most : Int) : List Td → Int → List Fy → Gv × List Dt
  | [], last, fl => (⟨win, most, last, [], fl⟩, [])
  | t :: r, last, fl => if (fl.length : Int) < win then
      let n := Gv.num ⟨win, most, last, t :: r, fl⟩
      let q := pumpG win most r n (fl ++ [⟨n, t.g, some t⟩])
      (q.1, sayD t false n :: q.2)
    else (⟨win, most, last, t :: r, fl⟩, [])
def Gv.pump (g : Gv) : Gv × List Dt := pumpG g.win g.most g.waits g.last g.flies
/-- what always holds -/
structure Gv.Ok (g : Gv) : Prop where
  win : 1 ≤ g.win
  most : g.win ≤ g.most
  top : g.most ≤ 65535
  last : 0 ≤ g.last ∧ g.last ≤ g.most
  few : (g.flies.length : Int) ≤ g.win
  wl : g.waits.length ≤ 5000
/-! ### the turn of the numbers -/
theorem ch_app {most : Int} {rest : List Int} : ∀ (k : Nat) (a : Int), a + k ≤ most → ch most (a + k) rest → ch most a ((List.range k).map (fun (j : Nat) => a + 1 + (j : Int)) ++ rest)
  | 0, a, _, h => by simpa using h
  | k + 1, a, hk, h => by
    rw [List.range_succ_eq_map, List.map_cons, List.map_map, List.cons_append]
    refine ⟨?_, ?_⟩
    · unfold stp
      rw [if_pos (by omega)]
      simp
    · have := ch_app (most := most) (rest := rest) k (a + 1) (by omega) (by rw [show a + 1 + (k : Int) = a + ((k + 1 : Nat) : Int) by omega]; exact h)
      have e : ((fun (j : Nat) => a + 1 + (j : Int)) ∘ Nat.succ) = fun (j : Nat) => a + 1 + 1 + (j : Int) := by
        funext j
        simp only [Function.comp, Nat.succ_eq_add_one]
        omega
      rw [e]
      simpa using this
theorem ch_turn {last most : Int} (h0 : 0 ≤ last) (h1 : last ≤ most) (h2 : 1 ≤ most) : ch most last (turnL last most) := by
  unfold turnL
  have hB : ch most 0 ((List.range last.toNat).map fun (k : Nat) => 1 + (k : Int)) := by
    have := ch_app (most := most) (rest := []) last.toNat 0 (by omega) trivial
    simpa using this
  refine ch_app _ _ (by omega) ?_
  rw [show last + ((most - last).toNat : Int) = most by omega]
  cases e : (List.range last.toNat).map (fun (k : Nat) => 1 + (k : Int)) with
  | nil => exact trivial
  | cons b r =>
    rw [e] at hB
    refine ⟨?_, hB.2⟩
    rw [hB.1]
    unfold stp
    rw [if_pos (by omega), if_neg (by omega)]
    rfl
theorem turn_mem {last most n : Int} (h0 : 0 ≤ last) (h1 : last ≤ most) : n ∈ turnL last most ↔ 1 ≤ n ∧ n ≤ most := by
  unfold turnL
  simp only [List.mem_append, List.mem_map, List.mem_range]
  constructor
  · rintro (⟨k, hk, e⟩ | ⟨k, hk, e⟩) <;> omega
  · intro ⟨a, b⟩
    by_cases h : n ≤ last
    · exact .inr ⟨(n - 1).toNat, by omega, by omega⟩
    · exact .inl ⟨(n - last - 1).toNat, by omega, by omega⟩
theorem turn_len {last most : Int} (h0 : 0 ≤ last) (h1 : last ≤ most) : (turnL last most).length = most.toNat := by
  unfold turnL
  simp only [List.length_append, List.length_map, List.length_range]
  omega
theorem pigeon : ∀ {L U : List Int}, L.Nodup → (∀ x ∈ L, x ∈ U) → L.length ≤ U.length
  | [], U, _, _ => Nat.zero_le _
  | x :: L, U, nd, h => by
    rw [List.nodup_cons] at nd
    have hx := h x List.mem_cons_self
    have := pigeon (L := L) (U := U.erase x) nd.2 fun y hy => (List.mem_erase_of_ne (fun e => nd.1 (by rw [← e]; exact hy))).mpr (h y (List.mem_cons_of_mem _ hy))
    rw [List.length_erase_of_mem hx] at this
    have := List.length_pos_of_mem hx
    simp only [List.length_cons]
    omega
theorem nodup_mapI {f : Nat → Int} (hf : ∀ a b, f a = f b → a = b) : ∀ {l : List Nat}, l.Nodup → (l.map f).Nodup
  | [], _ => List.nodup_nil
  | x :: l, h => by
    rw [List.nodup_cons] at h
    rw [List.map_cons, List.nodup_cons]
    refine ⟨fun z => ?_, nodup_mapI hf h.2⟩
    obtain ⟨y, hy, e⟩ := List.mem_map.mp z
    rw [hf _ _ e] at hy
    exact h.1 hy
theorem turn_nd {last most : Int} (h0 : 0 ≤ last) : (turnL last most).Nodup := by
  unfold turnL
  refine List.nodup_append.mpr ⟨nodup_mapI (fun a b e => by omega) List.nodup_range, nodup_mapI (fun a b e => by omega) List.nodup_range, fun a ha b hb => ?_⟩
  simp only [List.mem_map, List.mem_range] at ha hb
  obtain ⟨k, hk, e⟩ := ha
  obtain ⟨j, hj, e2⟩ := hb
  omega
theorem Gv.num_is {g : Gv} (k : g.Ok) (h : (g.flies.length : Int) < g.win) : (turnL g.last g.most).find? (fre g.used) = some g.num ∧ 1 ≤ g.num ∧ g.num ≤ g.most ∧ g.num ∉ g.used := by
  cases e : (turnL g.last g.most).find? (fre g.used) with
  | none =>
    exfalso
    rw [List.find?_eq_none] at e
    have := pigeon (turn_nd (most := g.most) k.last.1) (U := g.used) fun x hx => by simpa [fre] using e x hx
    rw [turn_len k.last.1 k.last.2] at this
    have h1 := k.most
    have h2 := k.win
    simp only [Gv.used, List.length_map] at this
    omega
  | some x =>
    have hn : g.num = x := by unfold Gv.num; rw [e]; rfl
    have hm := List.mem_of_find?_eq_some e
    rw [turn_mem k.last.1 k.last.2] at hm
    refine ⟨by rw [hn], by rw [hn]; exact hm.1, by rw [hn]; exact hm.2, ?_⟩
    have := List.find?_some e
    rw [hn]
    simpa [fre] using this
theorem Gv.go_ok {g : Gv} {t : Td} {r : List Td} (k : g.Ok) (hw : g.waits = t :: r) (h : (g.flies.length : Int) < g.win) : (g.go t r).Ok where
  win := k.win
  most := k.most
  top := k.top
  last := ⟨by have := (Gv.num_is k h).2.1; show 0 ≤ g.num; omega, (Gv.num_is k h).2.2.1⟩
  few := by simp only [Gv.go, List.length_append, List.length_cons, List.length_nil]; omega
  wl := by have := k.wl; rw [hw] at this; simp only [List.length_cons] at this; show r.length ≤ 5000; omega
theorem Gv.pump_nil {g : Gv} (hw : g.waits = []) : g.pump = (g, []) := by
  cases g
  simp only at hw
  subst hw
  rfl
theorem Gv.pump_full {g : Gv} (h : ¬ (g.flies.length : Int) < g.win) : g.pump = (g, []) := by
  obtain ⟨win, most, last, waits, flies⟩ := g
  cases waits with
  | nil => rfl
  | cons t r => simp only [Gv.pump, pumpG, if_neg h]
theorem Gv.pump_cons {g : Gv} {t : Td} {r : List Td} (hw : g.waits = t :: r) (h : (g.flies.length : Int) < g.win) : g.pump = ((g.go t r).pump.1, sayD t false g.num :: (g.go t r).pump.2) := by
  obtain ⟨win, most, last, waits, flies⟩ := g
  simp only at hw
  subst hw
  simp only [Gv.pump, pumpG, if_pos h, Gv.go]
/-! ### pumping, run -/
theorem pump_turn {i w f p : Nat} {g : Gv} {t : Td} {r : List Td} {acc : List Dt} {R : List SP} {s : Sto} {x2 x3 x4 x5 x6 : Option Dt} (k : g.Ok) (hw : g.waits = t :: r) (h : (g.flies.length : Int) < g.win) (ha : acc.length < 100000)
    (o : Own (At i (insG g w f) :: At w (.lst (g.waits.map Td.d)) :: At f (.lst (g.flies.map Fy.d)) :: At p (.lst acc) :: R) s) :
    ∃ w' y2 y3 y4 y5 y6 s', l_Giver_pump_1 [some (.obj i), some (.obj p), x2, x3, x4, x5, x6] s = .fl (.nx [some (.obj i), some (.obj p), y2, y3, y4, y5, y6]) s' ∧
      Own (At i (insG (g.go t r) w' f) :: At w' (.lst ((g.go t r).waits.map Td.d)) :: At f (.lst ((g.go t r).flies.map Fy.d)) :: At p (.lst (acc ++ [sayD t false g.num])) :: R) s' := by
  obtain ⟨n1, n2, n3, n4⟩ := Gv.num_is k h
  have h1 := o.get
  have h2 := (own2 o).get
  rw [hw] at h2
  have e1 := insD_obj h1
  have f1 : w_Giver_pump_1 [some (.obj i), some (.obj p), x2, x3, x4, x5, x6] s = .fl (.nx [some (.obj i), some (.obj p), some t.nm, some t.bd, some (.int t.g), some t.kp, x6]) s := by
    have e2 : dIx (.obj w) (.int 0) s = .ok t.d s := by rw [dIx_obj h2, atI_zero]; rfl
    unfold w_Giver_pump_1
    simp only [fnOf, ev_seq, ev_asg, sBnd_def, ev_op, ev_un, bnd_def, ev_call, evs_cons, evs_nil, ev_var, ev_c, ev_if, ev_next, ev_expr, ev_tru, ev_bl, ev_and, ev_or, ev_not, ev_yes, ev_andE, ev_orE, ev_notE, ev_ifE, ev_chain, ofB_some, ofO_some, ofO_none, truD_non, truD_bl, truD_int, truD_str, truD_tup, truD_lst, truD_lsk, ev_tup, ev_lst, ev_nwF, ev_nwM, ev_meth, ev_make, ev_fld, ev_setF, ev_bm1, asQ_tup, asQ_lst, asQ_lsk, asL_lst, asL_lsk, dLen_tup, dLen_lst, dLen_lsk, dLen_str, dIx_tup, dIx_lst, dIx_lsk, dIx_str, dAdd_int, dNeg_int, isN_def, notN_def, isNon_non, isNon_int, isNon_bl, isNon_str, isNon_tup, isNon_lst, isNon_obj, isNon_exc, dEq_int, dNe_int, dEq_str, dNe_str, dEq_bl, atI_zero, atI_one, atI_2, atI_3, atI_4, atI_5, atI_6, atI_7, atI_8, atI_9, atI_10, atI_11, atI_12, atI_m1, ev_gT, setAll_nil, setAll_cons, iOp_int, ev_gN, ev_ret, List.map_cons, List.map_nil, List.length_cons, List.length_nil, rep_zero, rep_succ, List.cons_append, List.nil_append, List.getElem?_cons_zero, List.getElem?_cons_succ, List.set_cons_zero, List.set_cons_succ, Nat.sub_self, Nat.reduceAdd, Nat.reduceSub, Option.map_some, Option.bind_some, if_true, Bool.not_true, Bool.not_false, Bool.false_eq_true, if_false, decide_true, decide_false, Int.reduceBEq, Int.reduceEq, Int.reduceLT, Int.reduceLE, Int.reduceNeg, Int.reduceAdd, Int.reduceSub, Int.reduceMul, Int.reduceToNat, Nat.reduceLT, Nat.reduceLeDiff, beq_self_eq_true, reduceIte, eq_self, Int.reduceNe, Int.reduceBNe, not_true_eq_false, not_false_eq_true, true_and, and_true, true_or, or_true, false_or, or_false, and_false, false_and, decide_eq_true_eq, Bool.true_and, Bool.and_true, Bool.false_and, Bool.and_false, Bool.true_or, Bool.or_true, Bool.false_or, Bool.or_false, e1, e2, Td.d]
  -- the rest waits
  obtain ⟨s1, hs1⟩ : ∃ s1, s1 = (s ++ [Mo.lst (r.map Td.d)]).set i (insG { g with waits := r } s.length f) := ⟨_, rfl⟩
  have o1 : Own (At i (insG { g with waits := r } s.length f) :: At s.length (.lst (r.map Td.d)) :: At f (.lst (g.flies.map Fy.d)) :: At p (.lst acc) :: R) s1 := by
    rw [hs1]
    have q := (own2 ((own2 o).drop.new (.lst (r.map Td.d)))).set (insG { g with waits := r } s.length f)
    exact q
  have f2 : ∀ x6, w_Giver_pump_2 [some (.obj i), some (.obj p), some t.nm, some t.bd, some (.int t.g), some t.kp, x6] s = .fl (.nx [some (.obj i), some (.obj p), some t.nm, some t.bd, some (.int t.g), some t.kp, x6]) s1 := fun x6 => by
    have e2 : dSl nwM (.obj w) (some 1) none s = .ok (.obj s.length) (s ++ [.lst (r.map Td.d)]) := by
      rw [dSl_obj h2, List.map_cons, cut_tail]; rfl
    have e3 : setFD (s ++ [Mo.lst (r.map Td.d)]) 0 3 (.obj i) (.obj s.length) = some s1 := by
      rw [hs1]
      exact setFD_obj (i := 3) (ds := [.int g.win, .int g.most, .int g.last, .obj w, .obj f]) (app_get h1) (by simp)
    unfold w_Giver_pump_2
    simp only [fnOf, ev_seq, ev_asg, sBnd_def, ev_op, ev_un, bnd_def, ev_call, evs_cons, evs_nil, ev_var, ev_c, ev_if, ev_next, ev_expr, ev_tru, ev_bl, ev_and, ev_or, ev_not, ev_yes, ev_andE, ev_orE, ev_notE, ev_ifE, ev_chain, ofB_some, ofO_some, ofO_none, truD_non, truD_bl, truD_int, truD_str, truD_tup, truD_lst, truD_lsk, ev_tup, ev_lst, ev_nwF, ev_nwM, ev_meth, ev_make, ev_fld, ev_setF, ev_bm1, asQ_tup, asQ_lst, asQ_lsk, asL_lst, asL_lsk, dLen_tup, dLen_lst, dLen_lsk, dLen_str, dIx_tup, dIx_lst, dIx_lsk, dIx_str, dAdd_int, dNeg_int, isN_def, notN_def, isNon_non, isNon_int, isNon_bl, isNon_str, isNon_tup, isNon_lst, isNon_obj, isNon_exc, dEq_int, dNe_int, dEq_str, dNe_str, dEq_bl, atI_zero, atI_one, atI_2, atI_3, atI_4, atI_5, atI_6, atI_7, atI_8, atI_9, atI_10, atI_11, atI_12, atI_m1, ev_gT, setAll_nil, setAll_cons, iOp_int, ev_gN, ev_ret, List.map_cons, List.map_nil, List.length_cons, List.length_nil, rep_zero, rep_succ, List.cons_append, List.nil_append, List.getElem?_cons_zero, List.getElem?_cons_succ, List.set_cons_zero, List.set_cons_succ, Nat.sub_self, Nat.reduceAdd, Nat.reduceSub, Option.map_some, Option.bind_some, if_true, Bool.not_true, Bool.not_false, Bool.false_eq_true, if_false, decide_true, decide_false, Int.reduceBEq, Int.reduceEq, Int.reduceLT, Int.reduceLE, Int.reduceNeg, Int.reduceAdd, Int.reduceSub, Int.reduceMul, Int.reduceToNat, Nat.reduceLT, Nat.reduceLeDiff, beq_self_eq_true, reduceIte, eq_self, Int.reduceNe, Int.reduceBNe, not_true_eq_false, not_false_eq_true, true_and, and_true, true_or, or_true, false_or, or_false, and_false, false_and, decide_eq_true_eq, Bool.true_and, Bool.and_true, Bool.false_and, Bool.and_false, Bool.true_or, Bool.or_true, Bool.false_or, Bool.or_false, ev_sl, evp_some, evp_none, e1, e2, e3]
  -- its number
  have h3 := o1.get
  have h4 := (own3 o1).get
  have gl : ({ g with waits := r } : Gv).Ok := ⟨k.win, k.most, k.top, k.last, k.few, by have := k.wl; rw [hw] at this; simp only [List.length_cons] at this; show r.length ≤ 5000; omega⟩
  have e5 := ev_number (g := { g with waits := r }) h3 h4 (ch_turn k.last.1 k.last.2 (by have := k.win; have := k.most; show 1 ≤ g.most; omega)) n1 (by rw [turn_len k.last.1 k.last.2]; have := k.top; show g.most.toNat ≤ 70000; omega)
  have e6 := insD_obj h3
  obtain ⟨s2, hs2⟩ : ∃ s2, s2 = s1.set i (insG { g with waits := r, last := g.num } s.length f) := ⟨_, rfl⟩
  have o2 : Own (At i (insG { g with waits := r, last := g.num } s.length f) :: At s.length (.lst (r.map Td.d)) :: At f (.lst (g.flies.map Fy.d)) :: At p (.lst acc) :: R) s2 := by
    rw [hs2]
    exact o1.set _
  have f3 : w_Giver_pump_3 [some (.obj i), some (.obj p), some t.nm, some t.bd, some (.int t.g), some t.kp, x6] s1 = .fl (.nx [some (.obj i), some (.obj p), some t.nm, some t.bd, some (.int t.g), some t.kp, some (.int g.num)]) s2 := by
    rw [hs2]
    unfold w_Giver_pump_3
    simp only [fnOf, ev_seq, ev_asg, sBnd_def, ev_op, ev_un, bnd_def, ev_call, evs_cons, evs_nil, ev_var, ev_c, ev_if, ev_next, ev_expr, ev_tru, ev_bl, ev_and, ev_or, ev_not, ev_yes, ev_andE, ev_orE, ev_notE, ev_ifE, ev_chain, ofB_some, ofO_some, ofO_none, truD_non, truD_bl, truD_int, truD_str, truD_tup, truD_lst, truD_lsk, ev_tup, ev_lst, ev_nwF, ev_nwM, ev_meth, ev_make, ev_fld, ev_setF, ev_bm1, asQ_tup, asQ_lst, asQ_lsk, asL_lst, asL_lsk, dLen_tup, dLen_lst, dLen_lsk, dLen_str, dIx_tup, dIx_lst, dIx_lsk, dIx_str, dAdd_int, dNeg_int, isN_def, notN_def, isNon_non, isNon_int, isNon_bl, isNon_str, isNon_tup, isNon_lst, isNon_obj, isNon_exc, dEq_int, dNe_int, dEq_str, dNe_str, dEq_bl, atI_zero, atI_one, atI_2, atI_3, atI_4, atI_5, atI_6, atI_7, atI_8, atI_9, atI_10, atI_11, atI_12, atI_m1, ev_gT, setAll_nil, setAll_cons, iOp_int, ev_gN, ev_ret, List.map_cons, List.map_nil, List.length_cons, List.length_nil, rep_zero, rep_succ, List.cons_append, List.nil_append, List.getElem?_cons_zero, List.getElem?_cons_succ, List.set_cons_zero, List.set_cons_succ, Nat.sub_self, Nat.reduceAdd, Nat.reduceSub, Option.map_some, Option.bind_some, if_true, Bool.not_true, Bool.not_false, Bool.false_eq_true, if_false, decide_true, decide_false, Int.reduceBEq, Int.reduceEq, Int.reduceLT, Int.reduceLE, Int.reduceNeg, Int.reduceAdd, Int.reduceSub, Int.reduceMul, Int.reduceToNat, Nat.reduceLT, Nat.reduceLeDiff, beq_self_eq_true, reduceIte, eq_self, Int.reduceNe, Int.reduceBNe, not_true_eq_false, not_false_eq_true, true_and, and_true, true_or, or_true, false_or, or_false, and_false, false_and, decide_eq_true_eq, Bool.true_and, Bool.and_true, Bool.false_and, Bool.and_false, Bool.true_or, Bool.or_true, Bool.false_or, Bool.or_false, e6, e5]
  -- under way
  have e7 := insD_obj o2.get
  have h5 := (own3 o2).get
  have e8 := isLst_obj h5
  obtain ⟨s3, hs3⟩ : ∃ s3, s3 = s2.set f (.lst (g.flies.map Fy.d ++ [.tup [.int g.num, .int t.g, .tup [t.nm, t.bd, .int t.g, t.kp]]])) := ⟨_, rfl⟩
  have e9 := dApp_at (y := .tup [.int g.num, .int t.g, .tup [t.nm, t.bd, .int t.g, t.kp]]) h5 (by rw [List.length_map]; have := k.few; have := k.most; have := k.top; omega)
  rw [← hs3] at e9
  have o3 : Own (At f (.lst (g.flies.map Fy.d ++ [.tup [.int g.num, .int t.g, .tup [t.nm, t.bd, .int t.g, t.kp]]])) :: At i (insG { g with waits := r, last := g.num } s.length f) :: At s.length (.lst (r.map Td.d)) :: At p (.lst acc) :: R) s3 := by
    rw [hs3]
    exact (own3 o2).set _
  have f4 : w_Giver_pump_4 [some (.obj i), some (.obj p), some t.nm, some t.bd, some (.int t.g), some t.kp, some (.int g.num)] s2 = .fl (.nx [some (.obj i), some (.obj p), some t.nm, some t.bd, some (.int t.g), some t.kp, some (.int g.num)]) s3 := by
    unfold w_Giver_pump_4
    simp only [fnOf, ev_seq, ev_asg, sBnd_def, ev_op, ev_un, bnd_def, ev_call, evs_cons, evs_nil, ev_var, ev_c, ev_if, ev_next, ev_expr, ev_tru, ev_bl, ev_and, ev_or, ev_not, ev_yes, ev_andE, ev_orE, ev_notE, ev_ifE, ev_chain, ofB_some, ofO_some, ofO_none, truD_non, truD_bl, truD_int, truD_str, truD_tup, truD_lst, truD_lsk, ev_tup, ev_lst, ev_nwF, ev_nwM, ev_meth, ev_make, ev_fld, ev_setF, ev_bm1, asQ_tup, asQ_lst, asQ_lsk, asL_lst, asL_lsk, dLen_tup, dLen_lst, dLen_lsk, dLen_str, dIx_tup, dIx_lst, dIx_lsk, dIx_str, dAdd_int, dNeg_int, isN_def, notN_def, isNon_non, isNon_int, isNon_bl, isNon_str, isNon_tup, isNon_lst, isNon_obj, isNon_exc, dEq_int, dNe_int, dEq_str, dNe_str, dEq_bl, atI_zero, atI_one, atI_2, atI_3, atI_4, atI_5, atI_6, atI_7, atI_8, atI_9, atI_10, atI_11, atI_12, atI_m1, ev_gT, setAll_nil, setAll_cons, iOp_int, ev_gN, ev_ret, List.map_cons, List.map_nil, List.length_cons, List.length_nil, rep_zero, rep_succ, List.cons_append, List.nil_append, List.getElem?_cons_zero, List.getElem?_cons_succ, List.set_cons_zero, List.set_cons_succ, Nat.sub_self, Nat.reduceAdd, Nat.reduceSub, Option.map_some, Option.bind_some, if_true, Bool.not_true, Bool.not_false, Bool.false_eq_true, if_false, decide_true, decide_false, Int.reduceBEq, Int.reduceEq, Int.reduceLT, Int.reduceLE, Int.reduceNeg, Int.reduceAdd, Int.reduceSub, Int.reduceMul, Int.reduceToNat, Nat.reduceLT, Nat.reduceLeDiff, beq_self_eq_true, reduceIte, eq_self, Int.reduceNe, Int.reduceBNe, not_true_eq_false, not_false_eq_true, true_and, and_true, true_or, or_true, false_or, or_false, and_false, false_and, decide_eq_true_eq, Bool.true_and, Bool.and_true, Bool.false_and, Bool.and_false, Bool.true_or, Bool.or_true, Bool.false_or, Bool.or_false, e7, e8, e9]
  have h6 := (own4 o3).get
  have e10 := isLst_obj h6
  obtain ⟨s4, hs4⟩ : ∃ s4, s4 = s3.set p (.lst (acc ++ [sayD t false g.num])) := ⟨_, rfl⟩
  have e11 := dApp_at (y := sayD t false g.num) h6 (by omega)
  rw [← hs4] at e11
  have o4 := (own4 o3).set (.lst (acc ++ [sayD t false g.num]))
  rw [← hs4] at o4
  have f5 : w_Giver_pump_5 [some (.obj i), some (.obj p), some t.nm, some t.bd, some (.int t.g), some t.kp, some (.int g.num)] s3 = .fl (.nx [some (.obj i), some (.obj p), some t.nm, some t.bd, some (.int t.g), some t.kp, some (.int g.num)]) s4 := by
    unfold w_Giver_pump_5
    unfold sayD at e11
    simp only [fnOf, ev_seq, ev_asg, sBnd_def, ev_op, ev_un, bnd_def, ev_call, evs_cons, evs_nil, ev_var, ev_c, ev_if, ev_next, ev_expr, ev_tru, ev_bl, ev_and, ev_or, ev_not, ev_yes, ev_andE, ev_orE, ev_notE, ev_ifE, ev_chain, ofB_some, ofO_some, ofO_none, truD_non, truD_bl, truD_int, truD_str, truD_tup, truD_lst, truD_lsk, ev_tup, ev_lst, ev_nwF, ev_nwM, ev_meth, ev_make, ev_fld, ev_setF, ev_bm1, asQ_tup, asQ_lst, asQ_lsk, asL_lst, asL_lsk, dLen_tup, dLen_lst, dLen_lsk, dLen_str, dIx_tup, dIx_lst, dIx_lsk, dIx_str, dAdd_int, dNeg_int, isN_def, notN_def, isNon_non, isNon_int, isNon_bl, isNon_str, isNon_tup, isNon_lst, isNon_obj, isNon_exc, dEq_int, dNe_int, dEq_str, dNe_str, dEq_bl, atI_zero, atI_one, atI_2, atI_3, atI_4, atI_5, atI_6, atI_7, atI_8, atI_9, atI_10, atI_11, atI_12, atI_m1, ev_gT, setAll_nil, setAll_cons, iOp_int, ev_gN, ev_ret, List.map_cons, List.map_nil, List.length_cons, List.length_nil, rep_zero, rep_succ, List.cons_append, List.nil_append, List.getElem?_cons_zero, List.getElem?_cons_succ, List.set_cons_zero, List.set_cons_succ, Nat.sub_self, Nat.reduceAdd, Nat.reduceSub, Option.map_some, Option.bind_some, if_true, Bool.not_true, Bool.not_false, Bool.false_eq_true, if_false, decide_true, decide_false, Int.reduceBEq, Int.reduceEq, Int.reduceLT, Int.reduceLE, Int.reduceNeg, Int.reduceAdd, Int.reduceSub, Int.reduceMul, Int.reduceToNat, Nat.reduceLT, Nat.reduceLeDiff, beq_self_eq_true, reduceIte, eq_self, Int.reduceNe, Int.reduceBNe, not_true_eq_false, not_false_eq_true, true_and, and_true, true_or, or_true, false_or, or_false, and_false, false_and, decide_eq_true_eq, Bool.true_and, Bool.and_true, Bool.false_and, Bool.and_false, Bool.true_or, Bool.or_true, Bool.false_or, Bool.or_false, e10, e11]
  refine ⟨s.length, some t.nm, some t.bd, some (.int t.g), some t.kp, some (.int g.num), s4, ?_, ?_⟩
  rotate_left
  · have q : (g.go t r).flies.map Fy.d = g.flies.map Fy.d ++ [.tup [.int g.num, .int t.g, .tup [t.nm, t.bd, .int t.g, t.kp]]] := by
      simp only [Gv.go, List.map_append, List.map_cons, List.map_nil]
      rfl
    rw [q]
    exact o4.ix [2, 3, 1, 0]
  · unfold l_Giver_pump_1
    simp only [ev_seq, f1, f2, f3, f4, f5]
theorem pump_wh {i f p : Nat} {R : List SP} : ∀ (ws : List Td) (fuel : Nat) (g : Gv) (w : Nat) (acc : List Dt) (s : Sto) (x2 x3 x4 x5 x6 : Option Dt), g.Ok → g.waits = ws → ws.length < fuel → acc.length + ws.length < 100000 →
    Own (At i (insG g w f) :: At w (.lst (g.waits.map Td.d)) :: At f (.lst (g.flies.map Fy.d)) :: At p (.lst acc) :: R) s →
    ∃ y2 y3 y4 y5 y6 s', whGo (tAnd (tTru (eFld 0 3 (eVar 0))) (tBl (eOp dLt (eUn dLen (eFld 0 4 (eVar 0))) (eFld 0 0 (eVar 0))))) l_Giver_pump_1 fuel [some (.obj i), some (.obj p), x2, x3, x4, x5, x6] s = .fl (.nx [some (.obj i), some (.obj p), y2, y3, y4, y5, y6]) s' ∧
      g.pump.1.Ok ∧ Own (At p (.lst (acc ++ g.pump.2)) :: GvA i g.pump.1 :: R) s'
  | [], fuel, g, w, acc, s, x2, x3, x4, x5, x6, k, hw, hf, ha, o => by
    obtain ⟨m, rfl⟩ : ∃ m, fuel = m + 1 := ⟨fuel - 1, by omega⟩
    have e1 := insD_obj o.get
    have e2 := truD_at (own2 o).get
    rw [hw] at e2
    refine ⟨x2, x3, x4, x5, x6, s, ?_, ?_, ?_⟩
    · unfold whGo
      simp only [fnOf, ev_seq, ev_asg, sBnd_def, ev_op, ev_un, bnd_def, ev_call, evs_cons, evs_nil, ev_var, ev_c, ev_if, ev_next, ev_expr, ev_tru, ev_bl, ev_and, ev_or, ev_not, ev_yes, ev_andE, ev_orE, ev_notE, ev_ifE, ev_chain, ofB_some, ofO_some, ofO_none, truD_non, truD_bl, truD_int, truD_str, truD_tup, truD_lst, truD_lsk, ev_tup, ev_lst, ev_nwF, ev_nwM, ev_meth, ev_make, ev_fld, ev_setF, ev_bm1, asQ_tup, asQ_lst, asQ_lsk, asL_lst, asL_lsk, dLen_tup, dLen_lst, dLen_lsk, dLen_str, dIx_tup, dIx_lst, dIx_lsk, dIx_str, dAdd_int, dNeg_int, isN_def, notN_def, isNon_non, isNon_int, isNon_bl, isNon_str, isNon_tup, isNon_lst, isNon_obj, isNon_exc, dEq_int, dNe_int, dEq_str, dNe_str, dEq_bl, atI_zero, atI_one, atI_2, atI_3, atI_4, atI_5, atI_6, atI_7, atI_8, atI_9, atI_10, atI_11, atI_12, atI_m1, ev_gT, setAll_nil, setAll_cons, iOp_int, ev_gN, ev_ret, List.map_cons, List.map_nil, List.length_cons, List.length_nil, rep_zero, rep_succ, List.cons_append, List.nil_append, List.getElem?_cons_zero, List.getElem?_cons_succ, List.set_cons_zero, List.set_cons_succ, Nat.sub_self, Nat.reduceAdd, Nat.reduceSub, Option.map_some, Option.bind_some, if_true, Bool.not_true, Bool.not_false, Bool.false_eq_true, if_false, decide_true, decide_false, Int.reduceBEq, Int.reduceEq, Int.reduceLT, Int.reduceLE, Int.reduceNeg, Int.reduceAdd, Int.reduceSub, Int.reduceMul, Int.reduceToNat, Nat.reduceLT, Nat.reduceLeDiff, beq_self_eq_true, reduceIte, eq_self, Int.reduceNe, Int.reduceBNe, not_true_eq_false, not_false_eq_true, true_and, and_true, true_or, or_true, false_or, or_false, and_false, false_and, decide_eq_true_eq, Bool.true_and, Bool.and_true, Bool.false_and, Bool.and_false, Bool.true_or, Bool.or_true, Bool.false_or, Bool.or_false, e1, e2, List.isEmpty_nil]
    · rw [Gv.pump_nil hw]; exact k
    · rw [Gv.pump_nil hw, List.append_nil]
      exact own2 (own_gv.mpr ⟨w, f, o⟩)
  | t :: r, fuel, g, w, acc, s, x2, x3, x4, x5, x6, k, hw, hf, ha, o => by
    obtain ⟨m, rfl⟩ : ∃ m, fuel = m + 1 := ⟨fuel - 1, by omega⟩
    have e1 := insD_obj o.get
    have e2 := truD_at (own2 o).get
    rw [hw] at e2
    have e3 := dLen_obj (own3 o).get
    rw [List.length_map] at e3
    by_cases h : (g.flies.length : Int) < g.win
    · obtain ⟨w', y2, y3, y4, y5, y6, s', hb, o'⟩ := pump_turn (x2 := x2) (x3 := x3) (x4 := x4) (x5 := x5) (x6 := x6) k hw h (by omega) o
      obtain ⟨z2, z3, z4, z5, z6, s2, hb2, k2, o2⟩ := pump_wh r m (g.go t r) w' (acc ++ [sayD t false g.num]) s' y2 y3 y4 y5 y6 (Gv.go_ok k hw h) rfl (by simp at hf; omega) (by simp at ha ⊢; omega) o'
      refine ⟨z2, z3, z4, z5, z6, s2, ?_, ?_, ?_⟩
      · unfold whGo
        simp only [fnOf, ev_seq, ev_asg, sBnd_def, ev_op, ev_un, bnd_def, ev_call, evs_cons, evs_nil, ev_var, ev_c, ev_if, ev_next, ev_expr, ev_tru, ev_bl, ev_and, ev_or, ev_not, ev_yes, ev_andE, ev_orE, ev_notE, ev_ifE, ev_chain, ofB_some, ofO_some, ofO_none, truD_non, truD_bl, truD_int, truD_str, truD_tup, truD_lst, truD_lsk, ev_tup, ev_lst, ev_nwF, ev_nwM, ev_meth, ev_make, ev_fld, ev_setF, ev_bm1, asQ_tup, asQ_lst, asQ_lsk, asL_lst, asL_lsk, dLen_tup, dLen_lst, dLen_lsk, dLen_str, dIx_tup, dIx_lst, dIx_lsk, dIx_str, dAdd_int, dNeg_int, isN_def, notN_def, isNon_non, isNon_int, isNon_bl, isNon_str, isNon_tup, isNon_lst, isNon_obj, isNon_exc, dEq_int, dNe_int, dEq_str, dNe_str, dEq_bl, atI_zero, atI_one, atI_2, atI_3, atI_4, atI_5, atI_6, atI_7, atI_8, atI_9, atI_10, atI_11, atI_12, atI_m1, ev_gT, setAll_nil, setAll_cons, iOp_int, ev_gN, ev_ret, List.map_cons, List.map_nil, List.length_cons, List.length_nil, rep_zero, rep_succ, List.cons_append, List.nil_append, List.getElem?_cons_zero, List.getElem?_cons_succ, List.set_cons_zero, List.set_cons_succ, Nat.sub_self, Nat.reduceAdd, Nat.reduceSub, Option.map_some, Option.bind_some, if_true, Bool.not_true, Bool.not_false, Bool.false_eq_true, if_false, decide_true, decide_false, Int.reduceBEq, Int.reduceEq, Int.reduceLT, Int.reduceLE, Int.reduceNeg, Int.reduceAdd, Int.reduceSub, Int.reduceMul, Int.reduceToNat, Nat.reduceLT, Nat.reduceLeDiff, beq_self_eq_true, reduceIte, eq_self, Int.reduceNe, Int.reduceBNe, not_true_eq_false, not_false_eq_true, true_and, and_true, true_or, or_true, false_or, or_false, and_false, false_and, decide_eq_true_eq, Bool.true_and, Bool.and_true, Bool.false_and, Bool.and_false, Bool.true_or, Bool.or_true, Bool.false_or, Bool.or_false, e1, e2, e3, h, List.isEmpty_cons]
        rw [hb]
        exact hb2
      · rw [Gv.pump_cons hw h]; exact k2
      · rw [Gv.pump_cons hw h]
        simpa using o2
    · refine ⟨x2, x3, x4, x5, x6, s, ?_, ?_, ?_⟩
      · unfold whGo
        simp only [fnOf, ev_seq, ev_asg, sBnd_def, ev_op, ev_un, bnd_def, ev_call, evs_cons, evs_nil, ev_var, ev_c, ev_if, ev_next, ev_expr, ev_tru, ev_bl, ev_and, ev_or, ev_not, ev_yes, ev_andE, ev_orE, ev_notE, ev_ifE, ev_chain, ofB_some, ofO_some, ofO_none, truD_non, truD_bl, truD_int, truD_str, truD_tup, truD_lst, truD_lsk, ev_tup, ev_lst, ev_nwF, ev_nwM, ev_meth, ev_make, ev_fld, ev_setF, ev_bm1, asQ_tup, asQ_lst, asQ_lsk, asL_lst, asL_lsk, dLen_tup, dLen_lst, dLen_lsk, dLen_str, dIx_tup, dIx_lst, dIx_lsk, dIx_str, dAdd_int, dNeg_int, isN_def, notN_def, isNon_non, isNon_int, isNon_bl, isNon_str, isNon_tup, isNon_lst, isNon_obj, isNon_exc, dEq_int, dNe_int, dEq_str, dNe_str, dEq_bl, atI_zero, atI_one, atI_2, atI_3, atI_4, atI_5, atI_6, atI_7, atI_8, atI_9, atI_10, atI_11, atI_12, atI_m1, ev_gT, setAll_nil, setAll_cons, iOp_int, ev_gN, ev_ret, List.map_cons, List.map_nil, List.length_cons, List.length_nil, rep_zero, rep_succ, List.cons_append, List.nil_append, List.getElem?_cons_zero, List.getElem?_cons_succ, List.set_cons_zero, List.set_cons_succ, Nat.sub_self, Nat.reduceAdd, Nat.reduceSub, Option.map_some, Option.bind_some, if_true, Bool.not_true, Bool.not_false, Bool.false_eq_true, if_false, decide_true, decide_false, Int.reduceBEq, Int.reduceEq, Int.reduceLT, Int.reduceLE, Int.reduceNeg, Int.reduceAdd, Int.reduceSub, Int.reduceMul, Int.reduceToNat, Nat.reduceLT, Nat.reduceLeDiff, beq_self_eq_true, reduceIte, eq_self, Int.reduceNe, Int.reduceBNe, not_true_eq_false, not_false_eq_true, true_and, and_true, true_or, or_true, false_or, or_false, and_false, false_and, decide_eq_true_eq, Bool.true_and, Bool.and_true, Bool.false_and, Bool.and_false, Bool.true_or, Bool.or_true, Bool.false_or, Bool.or_false, e1, e2, e3, h, List.isEmpty_cons]
      · rw [Gv.pump_full h]; exact k
      · rw [Gv.pump_full h, List.append_nil]
        exact own2 (own_gv.mpr ⟨w, f, o⟩)
theorem ev_pump {i : Nat} {g : Gv} {R : List SP} {s : Sto} (k : g.Ok) (o : Own (GvA i g :: R) s) : ∃ p s', m_Giver_pump [.obj i] s = .ok (.obj p) s' ∧ g.pump.1.Ok ∧ Own (At p (.lst g.pump.2) :: GvA i g.pump.1 :: R) s' := by
  obtain ⟨w, f, o⟩ := own_gv.mp o
  have o1 := (o.new (.lst [])).ix [1, 2, 3, 0]
  obtain ⟨y2, y3, y4, y5, y6, s', hw, k', o'⟩ := pump_wh g.waits 100000 g w [] _ none none none none none k rfl (by have := k.wl; omega) (by have := k.wl; simp; omega) o1
  refine ⟨s.length, s', ?_, k', o'⟩
  have f1 : u_Giver_pump_1 [some (.obj i), none, none, none, none, none, none] s = .fl (.nx [some (.obj i), some (.obj s.length), none, none, none, none, none]) (s ++ [.lst []]) := by
    unfold u_Giver_pump_1
    simp only [fnOf, ev_seq, ev_asg, sBnd_def, ev_op, ev_un, bnd_def, ev_call, evs_cons, evs_nil, ev_var, ev_c, ev_if, ev_next, ev_expr, ev_tru, ev_bl, ev_and, ev_or, ev_not, ev_yes, ev_andE, ev_orE, ev_notE, ev_ifE, ev_chain, ofB_some, ofO_some, ofO_none, truD_non, truD_bl, truD_int, truD_str, truD_tup, truD_lst, truD_lsk, ev_tup, ev_lst, ev_nwF, ev_nwM, ev_meth, ev_make, ev_fld, ev_setF, ev_bm1, asQ_tup, asQ_lst, asQ_lsk, asL_lst, asL_lsk, dLen_tup, dLen_lst, dLen_lsk, dLen_str, dIx_tup, dIx_lst, dIx_lsk, dIx_str, dAdd_int, dNeg_int, isN_def, notN_def, isNon_non, isNon_int, isNon_bl, isNon_str, isNon_tup, isNon_lst, isNon_obj, isNon_exc, dEq_int, dNe_int, dEq_str, dNe_str, dEq_bl, atI_zero, atI_one, atI_2, atI_3, atI_4, atI_5, atI_6, atI_7, atI_8, atI_9, atI_10, atI_11, atI_12, atI_m1, ev_gT, setAll_nil, setAll_cons, iOp_int, ev_gN, ev_ret, List.map_cons, List.map_nil, List.length_cons, List.length_nil, rep_zero, rep_succ, List.cons_append, List.nil_append, List.getElem?_cons_zero, List.getElem?_cons_succ, List.set_cons_zero, List.set_cons_succ, Nat.sub_self, Nat.reduceAdd, Nat.reduceSub, Option.map_some, Option.bind_some, if_true, Bool.not_true, Bool.not_false, Bool.false_eq_true, if_false, decide_true, decide_false, Int.reduceBEq, Int.reduceEq, Int.reduceLT, Int.reduceLE, Int.reduceNeg, Int.reduceAdd, Int.reduceSub, Int.reduceMul, Int.reduceToNat, Nat.reduceLT, Nat.reduceLeDiff, beq_self_eq_true, reduceIte, eq_self, Int.reduceNe, Int.reduceBNe, not_true_eq_false, not_false_eq_true, true_and, and_true, true_or, or_true, false_or, or_false, and_false, false_and, decide_eq_true_eq, Bool.true_and, Bool.and_true, Bool.false_and, Bool.and_false, Bool.true_or, Bool.or_true, Bool.false_or, Bool.or_false]
  unfold m_Giver_pump b_Giver_pump
  simp only [fnOf, ev_seq, ev_asg, sBnd_def, ev_op, ev_un, bnd_def, ev_call, evs_cons, evs_nil, ev_var, ev_c, ev_if, ev_next, ev_expr, ev_tru, ev_bl, ev_and, ev_or, ev_not, ev_yes, ev_andE, ev_orE, ev_notE, ev_ifE, ev_chain, ofB_some, ofO_some, ofO_none, truD_non, truD_bl, truD_int, truD_str, truD_tup, truD_lst, truD_lsk, ev_tup, ev_lst, ev_nwF, ev_nwM, ev_meth, ev_make, ev_fld, ev_setF, ev_bm1, asQ_tup, asQ_lst, asQ_lsk, asL_lst, asL_lsk, dLen_tup, dLen_lst, dLen_lsk, dLen_str, dIx_tup, dIx_lst, dIx_lsk, dIx_str, dAdd_int, dNeg_int, isN_def, notN_def, isNon_non, isNon_int, isNon_bl, isNon_str, isNon_tup, isNon_lst, isNon_obj, isNon_exc, dEq_int, dNe_int, dEq_str, dNe_str, dEq_bl, atI_zero, atI_one, atI_2, atI_3, atI_4, atI_5, atI_6, atI_7, atI_8, atI_9, atI_10, atI_11, atI_12, atI_m1, ev_gT, setAll_nil, setAll_cons, iOp_int, ev_gN, ev_ret, List.map_cons, List.map_nil, List.length_cons, List.length_nil, rep_zero, rep_succ, List.cons_append, List.nil_append, List.getElem?_cons_zero, List.getElem?_cons_succ, List.set_cons_zero, List.set_cons_succ, Nat.sub_self, Nat.reduceAdd, Nat.reduceSub, Option.map_some, Option.bind_some, if_true, Bool.not_true, Bool.not_false, Bool.false_eq_true, if_false, decide_true, decide_false, Int.reduceBEq, Int.reduceEq, Int.reduceLT, Int.reduceLE, Int.reduceNeg, Int.reduceAdd, Int.reduceSub, Int.reduceMul, Int.reduceToNat, Nat.reduceLT, Nat.reduceLeDiff, beq_self_eq_true, reduceIte, eq_self, Int.reduceNe, Int.reduceBNe, not_true_eq_false, not_false_eq_true, true_and, and_true, true_or, or_true, false_or, or_false, and_false, false_and, decide_eq_true_eq, Bool.true_and, Bool.and_true, Bool.false_and, Bool.and_false, Bool.true_or, Bool.or_true, Bool.false_or, Bool.or_false, f1, show u_Giver_pump_2 [some (.obj i), some (.obj s.length), none, none, none, none, none] (s ++ [.lst []]) = _ from hw]
  unfold u_Giver_pump_3
  simp only [fnOf, ev_seq, ev_asg, sBnd_def, ev_op, ev_un, bnd_def, ev_call, evs_cons, evs_nil, ev_var, ev_c, ev_if, ev_next, ev_expr, ev_tru, ev_bl, ev_and, ev_or, ev_not, ev_yes, ev_andE, ev_orE, ev_notE, ev_ifE, ev_chain, ofB_some, ofO_some, ofO_none, truD_non, truD_bl, truD_int, truD_str, truD_tup, truD_lst, truD_lsk, ev_tup, ev_lst, ev_nwF, ev_nwM, ev_meth, ev_make, ev_fld, ev_setF, ev_bm1, asQ_tup, asQ_lst, asQ_lsk, asL_lst, asL_lsk, dLen_tup, dLen_lst, dLen_lsk, dLen_str, dIx_tup, dIx_lst, dIx_lsk, dIx_str, dAdd_int, dNeg_int, isN_def, notN_def, isNon_non, isNon_int, isNon_bl, isNon_str, isNon_tup, isNon_lst, isNon_obj, isNon_exc, dEq_int, dNe_int, dEq_str, dNe_str, dEq_bl, atI_zero, atI_one, atI_2, atI_3, atI_4, atI_5, atI_6, atI_7, atI_8, atI_9, atI_10, atI_11, atI_12, atI_m1, ev_gT, setAll_nil, setAll_cons, iOp_int, ev_gN, ev_ret, List.map_cons, List.map_nil, List.length_cons, List.length_nil, rep_zero, rep_succ, List.cons_append, List.nil_append, List.getElem?_cons_zero, List.getElem?_cons_succ, List.set_cons_zero, List.set_cons_succ, Nat.sub_self, Nat.reduceAdd, Nat.reduceSub, Option.map_some, Option.bind_some, if_true, Bool.not_true, Bool.not_false, Bool.false_eq_true, if_false, decide_true, decide_false, Int.reduceBEq, Int.reduceEq, Int.reduceLT, Int.reduceLE, Int.reduceNeg, Int.reduceAdd, Int.reduceSub, Int.reduceMul, Int.reduceToNat, Nat.reduceLT, Nat.reduceLeDiff, beq_self_eq_true, reduceIte, eq_self, Int.reduceNe, Int.reduceBNe, not_true_eq_false, not_false_eq_true, true_and, and_true, true_or, or_true, false_or, or_false, and_false, false_and, decide_eq_true_eq, Bool.true_and, Bool.and_true, Bool.false_and, Bool.and_false, Bool.true_or, Bool.or_true, Bool.false_or, Bool.or_false]
/-! ### tidings looked at -/
def bsgn (c : Nat) : Bool := 32 ≤ c && c < 127 && c != 37
def isBody (l : List Nat) : Bool := decide (l.length ≤ 300) && l.all bsgn
theorem ev_look_grade (g : Int) (s : Sto) : m_look_grade [.int g] s = if 0 ≤ g ∧ g ≤ 2 then .ok .non s else .exc 3 s := by
  unfold m_look_grade b_look_grade
  by_cases h1 : 0 ≤ g
  · by_cases h2 : g ≤ 2
    · simp only [fnOf, ev_seq, ev_asg, sBnd_def, ev_op, ev_un, bnd_def, ev_call, evs_cons, evs_nil, ev_var, ev_c, ev_if, ev_next, ev_expr, ev_tru, ev_bl, ev_and, ev_or, ev_not, ev_yes, ev_andE, ev_orE, ev_notE, ev_ifE, ev_chain, ofB_some, ofO_some, ofO_none, truD_non, truD_bl, truD_int, truD_str, truD_tup, truD_lst, truD_lsk, ev_tup, ev_lst, ev_nwF, ev_nwM, ev_meth, ev_make, ev_fld, ev_setF, ev_bm1, asQ_tup, asQ_lst, asQ_lsk, asL_lst, asL_lsk, dLen_tup, dLen_lst, dLen_lsk, dLen_str, dIx_tup, dIx_lst, dIx_lsk, dIx_str, dAdd_int, dNeg_int, isN_def, notN_def, isNon_non, isNon_int, isNon_bl, isNon_str, isNon_tup, isNon_lst, isNon_obj, isNon_exc, dEq_int, dNe_int, dEq_str, dNe_str, dEq_bl, atI_zero, atI_one, atI_2, atI_3, atI_4, atI_5, atI_6, atI_7, atI_8, atI_9, atI_10, atI_11, atI_12, atI_m1, ev_gT, setAll_nil, setAll_cons, iOp_int, ev_gN, ev_ret, List.map_cons, List.map_nil, List.length_cons, List.length_nil, rep_zero, rep_succ, List.cons_append, List.nil_append, List.getElem?_cons_zero, List.getElem?_cons_succ, List.set_cons_zero, List.set_cons_succ, Nat.sub_self, Nat.reduceAdd, Nat.reduceSub, Option.map_some, Option.bind_some, if_true, Bool.not_true, Bool.not_false, Bool.false_eq_true, if_false, decide_true, decide_false, Int.reduceBEq, Int.reduceEq, Int.reduceLT, Int.reduceLE, Int.reduceNeg, Int.reduceAdd, Int.reduceSub, Int.reduceMul, Int.reduceToNat, Nat.reduceLT, Nat.reduceLeDiff, beq_self_eq_true, reduceIte, eq_self, Int.reduceNe, Int.reduceBNe, not_true_eq_false, not_false_eq_true, true_and, and_true, true_or, or_true, false_or, or_false, and_false, false_and, decide_eq_true_eq, Bool.true_and, Bool.and_true, Bool.false_and, Bool.and_false, Bool.true_or, Bool.or_true, Bool.false_or, Bool.or_false, h1, h2, ev_raise]
    · simp only [fnOf, ev_seq, ev_asg, sBnd_def, ev_op, ev_un, bnd_def, ev_call, evs_cons, evs_nil, ev_var, ev_c, ev_if, ev_next, ev_expr, ev_tru, ev_bl, ev_and, ev_or, ev_not, ev_yes, ev_andE, ev_orE, ev_notE, ev_ifE, ev_chain, ofB_some, ofO_some, ofO_none, truD_non, truD_bl, truD_int, truD_str, truD_tup, truD_lst, truD_lsk, ev_tup, ev_lst, ev_nwF, ev_nwM, ev_meth, ev_make, ev_fld, ev_setF, ev_bm1, asQ_tup, asQ_lst, asQ_lsk, asL_lst, asL_lsk, dLen_tup, dLen_lst, dLen_lsk, dLen_str, dIx_tup, dIx_lst, dIx_lsk, dIx_str, dAdd_int, dNeg_int, isN_def, notN_def, isNon_non, isNon_int, isNon_bl, isNon_str, isNon_tup, isNon_lst, isNon_obj, isNon_exc, dEq_int, dNe_int, dEq_str, dNe_str, dEq_bl, atI_zero, atI_one, atI_2, atI_3, atI_4, atI_5, atI_6, atI_7, atI_8, atI_9, atI_10, atI_11, atI_12, atI_m1, ev_gT, setAll_nil, setAll_cons, iOp_int, ev_gN, ev_ret, List.map_cons, List.map_nil, List.length_cons, List.length_nil, rep_zero, rep_succ, List.cons_append, List.nil_append, List.getElem?_cons_zero, List.getElem?_cons_succ, List.set_cons_zero, List.set_cons_succ, Nat.sub_self, Nat.reduceAdd, Nat.reduceSub, Option.map_some, Option.bind_some, if_true, Bool.not_true, Bool.not_false, Bool.false_eq_true, if_false, decide_true, decide_false, Int.reduceBEq, Int.reduceEq, Int.reduceLT, Int.reduceLE, Int.reduceNeg, Int.reduceAdd, Int.reduceSub, Int.reduceMul, Int.reduceToNat, Nat.reduceLT, Nat.reduceLeDiff, beq_self_eq_true, reduceIte, eq_self, Int.reduceNe, Int.reduceBNe, not_true_eq_false, not_false_eq_true, true_and, and_true, true_or, or_true, false_or, or_false, and_false, false_and, decide_eq_true_eq, Bool.true_and, Bool.and_true, Bool.false_and, Bool.and_false, Bool.true_or, Bool.or_true, Bool.false_or, Bool.or_false, h1, h2, ev_raise]
  · simp only [fnOf, ev_seq, ev_asg, sBnd_def, ev_op, ev_un, bnd_def, ev_call, evs_cons, evs_nil, ev_var, ev_c, ev_if, ev_next, ev_expr, ev_tru, ev_bl, ev_and, ev_or, ev_not, ev_yes, ev_andE, ev_orE, ev_notE, ev_ifE, ev_chain, ofB_some, ofO_some, ofO_none, truD_non, truD_bl, truD_int, truD_str, truD_tup, truD_lst, truD_lsk, ev_tup, ev_lst, ev_nwF, ev_nwM, ev_meth, ev_make, ev_fld, ev_setF, ev_bm1, asQ_tup, asQ_lst, asQ_lsk, asL_lst, asL_lsk, dLen_tup, dLen_lst, dLen_lsk, dLen_str, dIx_tup, dIx_lst, dIx_lsk, dIx_str, dAdd_int, dNeg_int, isN_def, notN_def, isNon_non, isNon_int, isNon_bl, isNon_str, isNon_tup, isNon_lst, isNon_obj, isNon_exc, dEq_int, dNe_int, dEq_str, dNe_str, dEq_bl, atI_zero, atI_one, atI_2, atI_3, atI_4, atI_5, atI_6, atI_7, atI_8, atI_9, atI_10, atI_11, atI_12, atI_m1, ev_gT, setAll_nil, setAll_cons, iOp_int, ev_gN, ev_ret, List.map_cons, List.map_nil, List.length_cons, List.length_nil, rep_zero, rep_succ, List.cons_append, List.nil_append, List.getElem?_cons_zero, List.getElem?_cons_succ, List.set_cons_zero, List.set_cons_succ, Nat.sub_self, Nat.reduceAdd, Nat.reduceSub, Option.map_some, Option.bind_some, if_true, Bool.not_true, Bool.not_false, Bool.false_eq_true, if_false, decide_true, decide_false, Int.reduceBEq, Int.reduceEq, Int.reduceLT, Int.reduceLE, Int.reduceNeg, Int.reduceAdd, Int.reduceSub, Int.reduceMul, Int.reduceToNat, Nat.reduceLT, Nat.reduceLeDiff, beq_self_eq_true, reduceIte, eq_self, Int.reduceNe, Int.reduceBNe, not_true_eq_false, not_false_eq_true, true_and, and_true, true_or, or_true, false_or, or_false, and_false, false_and, decide_eq_true_eq, Bool.true_and, Bool.and_true, Bool.false_and, Bool.and_false, Bool.true_or, Bool.or_true, Bool.false_or, Bool.or_false, h1, ev_raise]
theorem ev_must (b : Bool) (s : Sto) : m_must [.bl b] s = if b = true then .ok .non s else .exc 4 s := by
  unfold m_must b_must
  cases b
  · simp only [fnOf, ev_seq, ev_asg, sBnd_def, ev_op, ev_un, bnd_def, ev_call, evs_cons, evs_nil, ev_var, ev_c, ev_if, ev_next, ev_expr, ev_tru, ev_bl, ev_and, ev_or, ev_not, ev_yes, ev_andE, ev_orE, ev_notE, ev_ifE, ev_chain, ofB_some, ofO_some, ofO_none, truD_non, truD_bl, truD_int, truD_str, truD_tup, truD_lst, truD_lsk, ev_tup, ev_lst, ev_nwF, ev_nwM, ev_meth, ev_make, ev_fld, ev_setF, ev_bm1, asQ_tup, asQ_lst, asQ_lsk, asL_lst, asL_lsk, dLen_tup, dLen_lst, dLen_lsk, dLen_str, dIx_tup, dIx_lst, dIx_lsk, dIx_str, dAdd_int, dNeg_int, isN_def, notN_def, isNon_non, isNon_int, isNon_bl, isNon_str, isNon_tup, isNon_lst, isNon_obj, isNon_exc, dEq_int, dNe_int, dEq_str, dNe_str, dEq_bl, atI_zero, atI_one, atI_2, atI_3, atI_4, atI_5, atI_6, atI_7, atI_8, atI_9, atI_10, atI_11, atI_12, atI_m1, ev_gT, setAll_nil, setAll_cons, iOp_int, ev_gN, ev_ret, List.map_cons, List.map_nil, List.length_cons, List.length_nil, rep_zero, rep_succ, List.cons_append, List.nil_append, List.getElem?_cons_zero, List.getElem?_cons_succ, List.set_cons_zero, List.set_cons_succ, Nat.sub_self, Nat.reduceAdd, Nat.reduceSub, Option.map_some, Option.bind_some, if_true, Bool.not_true, Bool.not_false, Bool.false_eq_true, if_false, decide_true, decide_false, Int.reduceBEq, Int.reduceEq, Int.reduceLT, Int.reduceLE, Int.reduceNeg, Int.reduceAdd, Int.reduceSub, Int.reduceMul, Int.reduceToNat, Nat.reduceLT, Nat.reduceLeDiff, beq_self_eq_true, reduceIte, eq_self, Int.reduceNe, Int.reduceBNe, not_true_eq_false, not_false_eq_true, true_and, and_true, true_or, or_true, false_or, or_false, and_false, false_and, decide_eq_true_eq, Bool.true_and, Bool.and_true, Bool.false_and, Bool.and_false, Bool.true_or, Bool.or_true, Bool.false_or, Bool.or_false, ev_raise]
  · simp only [fnOf, ev_seq, ev_asg, sBnd_def, ev_op, ev_un, bnd_def, ev_call, evs_cons, evs_nil, ev_var, ev_c, ev_if, ev_next, ev_expr, ev_tru, ev_bl, ev_and, ev_or, ev_not, ev_yes, ev_andE, ev_orE, ev_notE, ev_ifE, ev_chain, ofB_some, ofO_some, ofO_none, truD_non, truD_bl, truD_int, truD_str, truD_tup, truD_lst, truD_lsk, ev_tup, ev_lst, ev_nwF, ev_nwM, ev_meth, ev_make, ev_fld, ev_setF, ev_bm1, asQ_tup, asQ_lst, asQ_lsk, asL_lst, asL_lsk, dLen_tup, dLen_lst, dLen_lsk, dLen_str, dIx_tup, dIx_lst, dIx_lsk, dIx_str, dAdd_int, dNeg_int, isN_def, notN_def, isNon_non, isNon_int, isNon_bl, isNon_str, isNon_tup, isNon_lst, isNon_obj, isNon_exc, dEq_int, dNe_int, dEq_str, dNe_str, dEq_bl, atI_zero, atI_one, atI_2, atI_3, atI_4, atI_5, atI_6, atI_7, atI_8, atI_9, atI_10, atI_11, atI_12, atI_m1, ev_gT, setAll_nil, setAll_cons, iOp_int, ev_gN, ev_ret, List.map_cons, List.map_nil, List.length_cons, List.length_nil, rep_zero, rep_succ, List.cons_append, List.nil_append, List.getElem?_cons_zero, List.getElem?_cons_succ, List.set_cons_zero, List.set_cons_succ, Nat.sub_self, Nat.reduceAdd, Nat.reduceSub, Option.map_some, Option.bind_some, if_true, Bool.not_true, Bool.not_false, Bool.false_eq_true, if_false, decide_true, decide_false, Int.reduceBEq, Int.reduceEq, Int.reduceLT, Int.reduceLE, Int.reduceNeg, Int.reduceAdd, Int.reduceSub, Int.reduceMul, Int.reduceToNat, Nat.reduceLT, Nat.reduceLeDiff, beq_self_eq_true, reduceIte, eq_self, Int.reduceNe, Int.reduceBNe, not_true_eq_false, not_false_eq_true, true_and, and_true, true_or, or_true, false_or, or_false, and_false, false_and, decide_eq_true_eq, Bool.true_and, Bool.and_true, Bool.false_and, Bool.and_false, Bool.true_or, Bool.or_true, Bool.false_or, Bool.or_false, ev_raise]
theorem ev_bsgn {l : List Nat} {c : Nat} {s : Sto} : eAnd (eChain dLe dLt (eC (.int 32)) (eUn dOrd (eVar 1)) (eC (.int 127))) (eOp dNe (eUn dOrd (eVar 1)) (eC (.int 37))) [some (.str (mkS l)), some (.str (mkS [c]))] s = .ok (.bl (bsgn c)) s := by
  unfold bsgn
  by_cases h1 : 32 ≤ c
  · have g1 : (32 : Int) ≤ c := by omega
    by_cases h2 : c < 127
    · have g2 : (c : Int) < 127 := by omega
      have g3 : ((c : Int) == 37) = (c == 37) := by
        rw [Bool.eq_iff_iff]; simp only [beq_iff_eq]; omega
      simp only [fnOf, ev_seq, ev_asg, sBnd_def, ev_op, ev_un, bnd_def, ev_call, evs_cons, evs_nil, ev_var, ev_c, ev_if, ev_next, ev_expr, ev_tru, ev_bl, ev_and, ev_or, ev_not, ev_yes, ev_andE, ev_orE, ev_notE, ev_ifE, ev_chain, ofB_some, ofO_some, ofO_none, truD_non, truD_bl, truD_int, truD_str, truD_tup, truD_lst, truD_lsk, ev_tup, ev_lst, ev_nwF, ev_nwM, ev_meth, ev_make, ev_fld, ev_setF, ev_bm1, asQ_tup, asQ_lst, asQ_lsk, asL_lst, asL_lsk, dLen_tup, dLen_lst, dLen_lsk, dLen_str, dIx_tup, dIx_lst, dIx_lsk, dIx_str, dAdd_int, dNeg_int, isN_def, notN_def, isNon_non, isNon_int, isNon_bl, isNon_str, isNon_tup, isNon_lst, isNon_obj, isNon_exc, dEq_int, dNe_int, dEq_str, dNe_str, dEq_bl, atI_zero, atI_one, atI_2, atI_3, atI_4, atI_5, atI_6, atI_7, atI_8, atI_9, atI_10, atI_11, atI_12, atI_m1, ev_gT, setAll_nil, setAll_cons, iOp_int, ev_gN, ev_ret, List.map_cons, List.map_nil, List.length_cons, List.length_nil, rep_zero, rep_succ, List.cons_append, List.nil_append, List.getElem?_cons_zero, List.getElem?_cons_succ, List.set_cons_zero, List.set_cons_succ, Nat.sub_self, Nat.reduceAdd, Nat.reduceSub, Option.map_some, Option.bind_some, if_true, Bool.not_true, Bool.not_false, Bool.false_eq_true, if_false, decide_true, decide_false, Int.reduceBEq, Int.reduceEq, Int.reduceLT, Int.reduceLE, Int.reduceNeg, Int.reduceAdd, Int.reduceSub, Int.reduceMul, Int.reduceToNat, Nat.reduceLT, Nat.reduceLeDiff, beq_self_eq_true, reduceIte, eq_self, Int.reduceNe, Int.reduceBNe, not_true_eq_false, not_false_eq_true, true_and, and_true, true_or, or_true, false_or, or_false, and_false, false_and, decide_eq_true_eq, Bool.true_and, Bool.and_true, Bool.false_and, Bool.and_false, Bool.true_or, Bool.or_true, Bool.false_or, Bool.or_false, dOrd_mk, g1, g2, h1, h2, g3]
      first | rfl | simp [bne]
    · have g2 : ¬ (c : Int) < 127 := by omega
      simp only [fnOf, ev_seq, ev_asg, sBnd_def, ev_op, ev_un, bnd_def, ev_call, evs_cons, evs_nil, ev_var, ev_c, ev_if, ev_next, ev_expr, ev_tru, ev_bl, ev_and, ev_or, ev_not, ev_yes, ev_andE, ev_orE, ev_notE, ev_ifE, ev_chain, ofB_some, ofO_some, ofO_none, truD_non, truD_bl, truD_int, truD_str, truD_tup, truD_lst, truD_lsk, ev_tup, ev_lst, ev_nwF, ev_nwM, ev_meth, ev_make, ev_fld, ev_setF, ev_bm1, asQ_tup, asQ_lst, asQ_lsk, asL_lst, asL_lsk, dLen_tup, dLen_lst, dLen_lsk, dLen_str, dIx_tup, dIx_lst, dIx_lsk, dIx_str, dAdd_int, dNeg_int, isN_def, notN_def, isNon_non, isNon_int, isNon_bl, isNon_str, isNon_tup, isNon_lst, isNon_obj, isNon_exc, dEq_int, dNe_int, dEq_str, dNe_str, dEq_bl, atI_zero, atI_one, atI_2, atI_3, atI_4, atI_5, atI_6, atI_7, atI_8, atI_9, atI_10, atI_11, atI_12, atI_m1, ev_gT, setAll_nil, setAll_cons, iOp_int, ev_gN, ev_ret, List.map_cons, List.map_nil, List.length_cons, List.length_nil, rep_zero, rep_succ, List.cons_append, List.nil_append, List.getElem?_cons_zero, List.getElem?_cons_succ, List.set_cons_zero, List.set_cons_succ, Nat.sub_self, Nat.reduceAdd, Nat.reduceSub, Option.map_some, Option.bind_some, if_true, Bool.not_true, Bool.not_false, Bool.false_eq_true, if_false, decide_true, decide_false, Int.reduceBEq, Int.reduceEq, Int.reduceLT, Int.reduceLE, Int.reduceNeg, Int.reduceAdd, Int.reduceSub, Int.reduceMul, Int.reduceToNat, Nat.reduceLT, Nat.reduceLeDiff, beq_self_eq_true, reduceIte, eq_self, Int.reduceNe, Int.reduceBNe, not_true_eq_false, not_false_eq_true, true_and, and_true, true_or, or_true, false_or, or_false, and_false, false_and, decide_eq_true_eq, Bool.true_and, Bool.and_true, Bool.false_and, Bool.and_false, Bool.true_or, Bool.or_true, Bool.false_or, Bool.or_false, dOrd_mk, g1, g2, h1, h2]
  · have g1 : ¬ (32 : Int) ≤ c := by omega
    simp only [fnOf, ev_seq, ev_asg, sBnd_def, ev_op, ev_un, bnd_def, ev_call, evs_cons, evs_nil, ev_var, ev_c, ev_if, ev_next, ev_expr, ev_tru, ev_bl, ev_and, ev_or, ev_not, ev_yes, ev_andE, ev_orE, ev_notE, ev_ifE, ev_chain, ofB_some, ofO_some, ofO_none, truD_non, truD_bl, truD_int, truD_str, truD_tup, truD_lst, truD_lsk, ev_tup, ev_lst, ev_nwF, ev_nwM, ev_meth, ev_make, ev_fld, ev_setF, ev_bm1, asQ_tup, asQ_lst, asQ_lsk, asL_lst, asL_lsk, dLen_tup, dLen_lst, dLen_lsk, dLen_str, dIx_tup, dIx_lst, dIx_lsk, dIx_str, dAdd_int, dNeg_int, isN_def, notN_def, isNon_non, isNon_int, isNon_bl, isNon_str, isNon_tup, isNon_lst, isNon_obj, isNon_exc, dEq_int, dNe_int, dEq_str, dNe_str, dEq_bl, atI_zero, atI_one, atI_2, atI_3, atI_4, atI_5, atI_6, atI_7, atI_8, atI_9, atI_10, atI_11, atI_12, atI_m1, ev_gT, setAll_nil, setAll_cons, iOp_int, ev_gN, ev_ret, List.map_cons, List.map_nil, List.length_cons, List.length_nil, rep_zero, rep_succ, List.cons_append, List.nil_append, List.getElem?_cons_zero, List.getElem?_cons_succ, List.set_cons_zero, List.set_cons_succ, Nat.sub_self, Nat.reduceAdd, Nat.reduceSub, Option.map_some, Option.bind_some, if_true, Bool.not_true, Bool.not_false, Bool.false_eq_true, if_false, decide_true, decide_false, Int.reduceBEq, Int.reduceEq, Int.reduceLT, Int.reduceLE, Int.reduceNeg, Int.reduceAdd, Int.reduceSub, Int.reduceMul, Int.reduceToNat, Nat.reduceLT, Nat.reduceLeDiff, beq_self_eq_true, reduceIte, eq_self, Int.reduceNe, Int.reduceBNe, not_true_eq_false, not_false_eq_true, true_and, and_true, true_or, or_true, false_or, or_false, and_false, false_and, decide_eq_true_eq, Bool.true_and, Bool.and_true, Bool.false_and, Bool.and_false, Bool.true_or, Bool.or_true, Bool.false_or, Bool.or_false, dOrd_mk, g1, h1]
theorem ev_is_body (l : List Nat) (s : Sto) : m_is_body [.str (mkS l)] s = .ok (.bl (isBody l)) s := by
  have e3 : lcGo (gN 1) Pd.tYes (eAnd (eChain dLe dLt (eC (.int 32)) (eUn dOrd (eVar 1)) (eC (.int 127))) (eOp dNe (eUn dOrd (eVar 1)) (eC (.int 37)))) (fun _ => True) (l.map fun c => .str (mkS [c])) [some (.str (mkS l)), none] s = .ok (l.map fun c => .bl (bsgn c)) s :=
    lc_map trivial fun c _ => ⟨[some (.str (mkS l)), some (.str (mkS [c]))], rfl, rfl, ev_bsgn⟩
  unfold m_is_body b_is_body isBody
  by_cases h : l.length ≤ 300
  · have g1 : (l.length : Int) ≤ 300 := by omega
    simp only [fnOf, ev_seq, ev_asg, sBnd_def, ev_op, ev_un, bnd_def, ev_call, evs_cons, evs_nil, ev_var, ev_c, ev_if, ev_next, ev_expr, ev_tru, ev_bl, ev_and, ev_or, ev_not, ev_yes, ev_andE, ev_orE, ev_notE, ev_ifE, ev_chain, ofB_some, ofO_some, ofO_none, truD_non, truD_bl, truD_int, truD_str, truD_tup, truD_lst, truD_lsk, ev_tup, ev_lst, ev_nwF, ev_nwM, ev_meth, ev_make, ev_fld, ev_setF, ev_bm1, asQ_tup, asQ_lst, asQ_lsk, asL_lst, asL_lsk, dLen_tup, dLen_lst, dLen_lsk, dLen_str, dIx_tup, dIx_lst, dIx_lsk, dIx_str, dAdd_int, dNeg_int, isN_def, notN_def, isNon_non, isNon_int, isNon_bl, isNon_str, isNon_tup, isNon_lst, isNon_obj, isNon_exc, dEq_int, dNe_int, dEq_str, dNe_str, dEq_bl, atI_zero, atI_one, atI_2, atI_3, atI_4, atI_5, atI_6, atI_7, atI_8, atI_9, atI_10, atI_11, atI_12, atI_m1, ev_gT, setAll_nil, setAll_cons, iOp_int, ev_gN, ev_ret, List.map_cons, List.map_nil, List.length_cons, List.length_nil, rep_zero, rep_succ, List.cons_append, List.nil_append, List.getElem?_cons_zero, List.getElem?_cons_succ, List.set_cons_zero, List.set_cons_succ, Nat.sub_self, Nat.reduceAdd, Nat.reduceSub, Option.map_some, Option.bind_some, if_true, Bool.not_true, Bool.not_false, Bool.false_eq_true, if_false, decide_true, decide_false, Int.reduceBEq, Int.reduceEq, Int.reduceLT, Int.reduceLE, Int.reduceNeg, Int.reduceAdd, Int.reduceSub, Int.reduceMul, Int.reduceToNat, Nat.reduceLT, Nat.reduceLeDiff, beq_self_eq_true, reduceIte, eq_self, Int.reduceNe, Int.reduceBNe, not_true_eq_false, not_false_eq_true, true_and, and_true, true_or, or_true, false_or, or_false, and_false, false_and, decide_eq_true_eq, Bool.true_and, Bool.and_true, Bool.false_and, Bool.and_false, Bool.true_or, Bool.or_true, Bool.false_or, Bool.or_false, mkS_len, g1, ev_lc, ev_iSeq, signs_mk, wipeD_nil, wipeD_cons, bndN, e3, dAll_map, h]
  · have g1 : ¬ (l.length : Int) ≤ 300 := by omega
    simp only [fnOf, ev_seq, ev_asg, sBnd_def, ev_op, ev_un, bnd_def, ev_call, evs_cons, evs_nil, ev_var, ev_c, ev_if, ev_next, ev_expr, ev_tru, ev_bl, ev_and, ev_or, ev_not, ev_yes, ev_andE, ev_orE, ev_notE, ev_ifE, ev_chain, ofB_some, ofO_some, ofO_none, truD_non, truD_bl, truD_int, truD_str, truD_tup, truD_lst, truD_lsk, ev_tup, ev_lst, ev_nwF, ev_nwM, ev_meth, ev_make, ev_fld, ev_setF, ev_bm1, asQ_tup, asQ_lst, asQ_lsk, asL_lst, asL_lsk, dLen_tup, dLen_lst, dLen_lsk, dLen_str, dIx_tup, dIx_lst, dIx_lsk, dIx_str, dAdd_int, dNeg_int, isN_def, notN_def, isNon_non, isNon_int, isNon_bl, isNon_str, isNon_tup, isNon_lst, isNon_obj, isNon_exc, dEq_int, dNe_int, dEq_str, dNe_str, dEq_bl, atI_zero, atI_one, atI_2, atI_3, atI_4, atI_5, atI_6, atI_7, atI_8, atI_9, atI_10, atI_11, atI_12, atI_m1, ev_gT, setAll_nil, setAll_cons, iOp_int, ev_gN, ev_ret, List.map_cons, List.map_nil, List.length_cons, List.length_nil, rep_zero, rep_succ, List.cons_append, List.nil_append, List.getElem?_cons_zero, List.getElem?_cons_succ, List.set_cons_zero, List.set_cons_succ, Nat.sub_self, Nat.reduceAdd, Nat.reduceSub, Option.map_some, Option.bind_some, if_true, Bool.not_true, Bool.not_false, Bool.false_eq_true, if_false, decide_true, decide_false, Int.reduceBEq, Int.reduceEq, Int.reduceLT, Int.reduceLE, Int.reduceNeg, Int.reduceAdd, Int.reduceSub, Int.reduceMul, Int.reduceToNat, Nat.reduceLT, Nat.reduceLeDiff, beq_self_eq_true, reduceIte, eq_self, Int.reduceNe, Int.reduceBNe, not_true_eq_false, not_false_eq_true, true_and, and_true, true_or, or_true, false_or, or_false, and_false, false_and, decide_eq_true_eq, Bool.true_and, Bool.and_true, Bool.false_and, Bool.and_false, Bool.true_or, Bool.or_true, Bool.false_or, Bool.or_false, mkS_len, g1, h]
theorem dIn_tf {b : Bool} {s : Sto} : dIn (.bl b) (.tup [.bl true, .bl false]) s = .ok (.bl true) s := by
  cases b <;> rfl
theorem ev_look_tiding (n b : List Nat) (g : Int) (k : Bool) (s : Sto) : m_look_tiding [.str (mkS n), .str (mkS b), .int g, .bl k] s =
    if isName n = true then if 0 ≤ g ∧ g ≤ 2 then if isBody b = true then .ok .non s else .exc 4 s else .exc 3 s else .exc 3 s := by
  unfold m_look_tiding b_look_tiding
  by_cases h1 : isName n = true
  · by_cases h2 : 0 ≤ g ∧ g ≤ 2
    · cases h3 : isBody b
      · simp only [fnOf, ev_seq, ev_asg, sBnd_def, ev_op, ev_un, bnd_def, ev_call, evs_cons, evs_nil, ev_var, ev_c, ev_if, ev_next, ev_expr, ev_tru, ev_bl, ev_and, ev_or, ev_not, ev_yes, ev_andE, ev_orE, ev_notE, ev_ifE, ev_chain, ofB_some, ofO_some, ofO_none, truD_non, truD_bl, truD_int, truD_str, truD_tup, truD_lst, truD_lsk, ev_tup, ev_lst, ev_nwF, ev_nwM, ev_meth, ev_make, ev_fld, ev_setF, ev_bm1, asQ_tup, asQ_lst, asQ_lsk, asL_lst, asL_lsk, dLen_tup, dLen_lst, dLen_lsk, dLen_str, dIx_tup, dIx_lst, dIx_lsk, dIx_str, dAdd_int, dNeg_int, isN_def, notN_def, isNon_non, isNon_int, isNon_bl, isNon_str, isNon_tup, isNon_lst, isNon_obj, isNon_exc, dEq_int, dNe_int, dEq_str, dNe_str, dEq_bl, atI_zero, atI_one, atI_2, atI_3, atI_4, atI_5, atI_6, atI_7, atI_8, atI_9, atI_10, atI_11, atI_12, atI_m1, ev_gT, setAll_nil, setAll_cons, iOp_int, ev_gN, ev_ret, List.map_cons, List.map_nil, List.length_cons, List.length_nil, rep_zero, rep_succ, List.cons_append, List.nil_append, List.getElem?_cons_zero, List.getElem?_cons_succ, List.set_cons_zero, List.set_cons_succ, Nat.sub_self, Nat.reduceAdd, Nat.reduceSub, Option.map_some, Option.bind_some, if_true, Bool.not_true, Bool.not_false, Bool.false_eq_true, if_false, decide_true, decide_false, Int.reduceBEq, Int.reduceEq, Int.reduceLT, Int.reduceLE, Int.reduceNeg, Int.reduceAdd, Int.reduceSub, Int.reduceMul, Int.reduceToNat, Nat.reduceLT, Nat.reduceLeDiff, beq_self_eq_true, reduceIte, eq_self, Int.reduceNe, Int.reduceBNe, not_true_eq_false, not_false_eq_true, true_and, and_true, true_or, or_true, false_or, or_false, and_false, false_and, decide_eq_true_eq, Bool.true_and, Bool.and_true, Bool.false_and, Bool.and_false, Bool.true_or, Bool.or_true, Bool.false_or, Bool.or_false, ev_look_name, h1, ev_look_grade, h2, ev_is_body, h3, dIn_tf, ev_must]
      · simp only [fnOf, ev_seq, ev_asg, sBnd_def, ev_op, ev_un, bnd_def, ev_call, evs_cons, evs_nil, ev_var, ev_c, ev_if, ev_next, ev_expr, ev_tru, ev_bl, ev_and, ev_or, ev_not, ev_yes, ev_andE, ev_orE, ev_notE, ev_ifE, ev_chain, ofB_some, ofO_some, ofO_none, truD_non, truD_bl, truD_int, truD_str, truD_tup, truD_lst, truD_lsk, ev_tup, ev_lst, ev_nwF, ev_nwM, ev_meth, ev_make, ev_fld, ev_setF, ev_bm1, asQ_tup, asQ_lst, asQ_lsk, asL_lst, asL_lsk, dLen_tup, dLen_lst, dLen_lsk, dLen_str, dIx_tup, dIx_lst, dIx_lsk, dIx_str, dAdd_int, dNeg_int, isN_def, notN_def, isNon_non, isNon_int, isNon_bl, isNon_str, isNon_tup, isNon_lst, isNon_obj, isNon_exc, dEq_int, dNe_int, dEq_str, dNe_str, dEq_bl, atI_zero, atI_one, atI_2, atI_3, atI_4, atI_5, atI_6, atI_7, atI_8, atI_9, atI_10, atI_11, atI_12, atI_m1, ev_gT, setAll_nil, setAll_cons, iOp_int, ev_gN, ev_ret, List.map_cons, List.map_nil, List.length_cons, List.length_nil, rep_zero, rep_succ, List.cons_append, List.nil_append, List.getElem?_cons_zero, List.getElem?_cons_succ, List.set_cons_zero, List.set_cons_succ, Nat.sub_self, Nat.reduceAdd, Nat.reduceSub, Option.map_some, Option.bind_some, if_true, Bool.not_true, Bool.not_false, Bool.false_eq_true, if_false, decide_true, decide_false, Int.reduceBEq, Int.reduceEq, Int.reduceLT, Int.reduceLE, Int.reduceNeg, Int.reduceAdd, Int.reduceSub, Int.reduceMul, Int.reduceToNat, Nat.reduceLT, Nat.reduceLeDiff, beq_self_eq_true, reduceIte, eq_self, Int.reduceNe, Int.reduceBNe, not_true_eq_false, not_false_eq_true, true_and, and_true, true_or, or_true, false_or, or_false, and_false, false_and, decide_eq_true_eq, Bool.true_and, Bool.and_true, Bool.false_and, Bool.and_false, Bool.true_or, Bool.or_true, Bool.false_or, Bool.or_false, ev_look_name, h1, ev_look_grade, h2, ev_is_body, h3, dIn_tf, ev_must]
    · simp only [fnOf, ev_seq, ev_asg, sBnd_def, ev_op, ev_un, bnd_def, ev_call, evs_cons, evs_nil, ev_var, ev_c, ev_if, ev_next, ev_expr, ev_tru, ev_bl, ev_and, ev_or, ev_not, ev_yes, ev_andE, ev_orE, ev_notE, ev_ifE, ev_chain, ofB_some, ofO_some, ofO_none, truD_non, truD_bl, truD_int, truD_str, truD_tup, truD_lst, truD_lsk, ev_tup, ev_lst, ev_nwF, ev_nwM, ev_meth, ev_make, ev_fld, ev_setF, ev_bm1, asQ_tup, asQ_lst, asQ_lsk, asL_lst, asL_lsk, dLen_tup, dLen_lst, dLen_lsk, dLen_str, dIx_tup, dIx_lst, dIx_lsk, dIx_str, dAdd_int, dNeg_int, isN_def, notN_def, isNon_non, isNon_int, isNon_bl, isNon_str, isNon_tup, isNon_lst, isNon_obj, isNon_exc, dEq_int, dNe_int, dEq_str, dNe_str, dEq_bl, atI_zero, atI_one, atI_2, atI_3, atI_4, atI_5, atI_6, atI_7, atI_8, atI_9, atI_10, atI_11, atI_12, atI_m1, ev_gT, setAll_nil, setAll_cons, iOp_int, ev_gN, ev_ret, List.map_cons, List.map_nil, List.length_cons, List.length_nil, rep_zero, rep_succ, List.cons_append, List.nil_append, List.getElem?_cons_zero, List.getElem?_cons_succ, List.set_cons_zero, List.set_cons_succ, Nat.sub_self, Nat.reduceAdd, Nat.reduceSub, Option.map_some, Option.bind_some, if_true, Bool.not_true, Bool.not_false, Bool.false_eq_true, if_false, decide_true, decide_false, Int.reduceBEq, Int.reduceEq, Int.reduceLT, Int.reduceLE, Int.reduceNeg, Int.reduceAdd, Int.reduceSub, Int.reduceMul, Int.reduceToNat, Nat.reduceLT, Nat.reduceLeDiff, beq_self_eq_true, reduceIte, eq_self, Int.reduceNe, Int.reduceBNe, not_true_eq_false, not_false_eq_true, true_and, and_true, true_or, or_true, false_or, or_false, and_false, false_and, decide_eq_true_eq, Bool.true_and, Bool.and_true, Bool.false_and, Bool.and_false, Bool.true_or, Bool.or_true, Bool.false_or, Bool.or_false, ev_look_name, h1, ev_look_grade, h2]
  · simp only [fnOf, ev_seq, ev_asg, sBnd_def, ev_op, ev_un, bnd_def, ev_call, evs_cons, evs_nil, ev_var, ev_c, ev_if, ev_next, ev_expr, ev_tru, ev_bl, ev_and, ev_or, ev_not, ev_yes, ev_andE, ev_orE, ev_notE, ev_ifE, ev_chain, ofB_some, ofO_some, ofO_none, truD_non, truD_bl, truD_int, truD_str, truD_tup, truD_lst, truD_lsk, ev_tup, ev_lst, ev_nwF, ev_nwM, ev_meth, ev_make, ev_fld, ev_setF, ev_bm1, asQ_tup, asQ_lst, asQ_lsk, asL_lst, asL_lsk, dLen_tup, dLen_lst, dLen_lsk, dLen_str, dIx_tup, dIx_lst, dIx_lsk, dIx_str, dAdd_int, dNeg_int, isN_def, notN_def, isNon_non, isNon_int, isNon_bl, isNon_str, isNon_tup, isNon_lst, isNon_obj, isNon_exc, dEq_int, dNe_int, dEq_str, dNe_str, dEq_bl, atI_zero, atI_one, atI_2, atI_3, atI_4, atI_5, atI_6, atI_7, atI_8, atI_9, atI_10, atI_11, atI_12, atI_m1, ev_gT, setAll_nil, setAll_cons, iOp_int, ev_gN, ev_ret, List.map_cons, List.map_nil, List.length_cons, List.length_nil, rep_zero, rep_succ, List.cons_append, List.nil_append, List.getElem?_cons_zero, List.getElem?_cons_succ, List.set_cons_zero, List.set_cons_succ, Nat.sub_self, Nat.reduceAdd, Nat.reduceSub, Option.map_some, Option.bind_some, if_true, Bool.not_true, Bool.not_false, Bool.false_eq_true, if_false, decide_true, decide_false, Int.reduceBEq, Int.reduceEq, Int.reduceLT, Int.reduceLE, Int.reduceNeg, Int.reduceAdd, Int.reduceSub, Int.reduceMul, Int.reduceToNat, Nat.reduceLT, Nat.reduceLeDiff, beq_self_eq_true, reduceIte, eq_self, Int.reduceNe, Int.reduceBNe, not_true_eq_false, not_false_eq_true, true_and, and_true, true_or, or_true, false_or, or_false, and_false, false_and, decide_eq_true_eq, Bool.true_and, Bool.and_true, Bool.false_and, Bool.and_false, Bool.true_or, Bool.or_true, Bool.false_or, Bool.or_false, ev_look_name, h1]
/-- a tiding that is one -/
def Td.Good (t : Td) : Prop := ∃ n b k, t = ⟨.str (mkS n), .str (mkS b), t.g, .bl k⟩ ∧ isName n = true ∧ isBody b = true ∧ 0 ≤ t.g ∧ t.g ≤ 2
theorem Td.Good.look {t : Td} (h : t.Good) (s : Sto) : m_look_tiding [t.nm, t.bd, .int t.g, t.kp] s = .ok .non s := by
  obtain ⟨n, b, k, e, h1, h2, h3, h4⟩ := h
  rw [e]
  simp only
  rw [ev_look_tiding, if_pos h1, if_pos ⟨h3, h4⟩, if_pos h2]
/-! ### what a giver does -/
def Gv.keep (g : Gv) (t : Td) : Gv := if 0 < t.g then { g with waits := g.waits ++ [t] } else g
theorem Gv.Ok.keep {g : Gv} {t : Td} (k : g.Ok) (h : g.waits.length < 5000) : (g.keep t).Ok := by
  unfold Gv.keep
  split
  · exact ⟨k.win, k.most, k.top, k.last, k.few, by simp only [List.length_append, List.length_cons, List.length_nil]; omega⟩
  · exact k
theorem ev_many {i : Nat} {g : Gv} {R : List SP} {s : Sto} (o : Own (GvA i g :: R) s) : m_Giver_many [.obj i] s = .ok (.tup [.int g.flies.length, .int g.waits.length]) s := by
  obtain ⟨w, f, o⟩ := own_gv.mp o
  have e1 := insD_obj o.get
  have e2 := dLen_obj (own2 o).get
  have e3 := dLen_obj (own3 o).get
  rw [List.length_map] at e2 e3
  unfold m_Giver_many b_Giver_many
  simp only [fnOf, ev_seq, ev_asg, sBnd_def, ev_op, ev_un, bnd_def, ev_call, evs_cons, evs_nil, ev_var, ev_c, ev_if, ev_next, ev_expr, ev_tru, ev_bl, ev_and, ev_or, ev_not, ev_yes, ev_andE, ev_orE, ev_notE, ev_ifE, ev_chain, ofB_some, ofO_some, ofO_none, truD_non, truD_bl, truD_int, truD_str, truD_tup, truD_lst, truD_lsk, ev_tup, ev_lst, ev_nwF, ev_nwM, ev_meth, ev_make, ev_fld, ev_setF, ev_bm1, asQ_tup, asQ_lst, asQ_lsk, asL_lst, asL_lsk, dLen_tup, dLen_lst, dLen_lsk, dLen_str, dIx_tup, dIx_lst, dIx_lsk, dIx_str, dAdd_int, dNeg_int, isN_def, notN_def, isNon_non, isNon_int, isNon_bl, isNon_str, isNon_tup, isNon_lst, isNon_obj, isNon_exc, dEq_int, dNe_int, dEq_str, dNe_str, dEq_bl, atI_zero, atI_one, atI_2, atI_3, atI_4, atI_5, atI_6, atI_7, atI_8, atI_9, atI_10, atI_11, atI_12, atI_m1, ev_gT, setAll_nil, setAll_cons, iOp_int, ev_gN, ev_ret, List.map_cons, List.map_nil, List.length_cons, List.length_nil, rep_zero, rep_succ, List.cons_append, List.nil_append, List.getElem?_cons_zero, List.getElem?_cons_succ, List.set_cons_zero, List.set_cons_succ, Nat.sub_self, Nat.reduceAdd, Nat.reduceSub, Option.map_some, Option.bind_some, if_true, Bool.not_true, Bool.not_false, Bool.false_eq_true, if_false, decide_true, decide_false, Int.reduceBEq, Int.reduceEq, Int.reduceLT, Int.reduceLE, Int.reduceNeg, Int.reduceAdd, Int.reduceSub, Int.reduceMul, Int.reduceToNat, Nat.reduceLT, Nat.reduceLeDiff, beq_self_eq_true, reduceIte, eq_self, Int.reduceNe, Int.reduceBNe, not_true_eq_false, not_false_eq_true, true_and, and_true, true_or, or_true, false_or, or_false, and_false, false_and, decide_eq_true_eq, Bool.true_and, Bool.and_true, Bool.false_and, Bool.and_false, Bool.true_or, Bool.or_true, Bool.false_or, Bool.or_false, e1, e2, e3]
theorem ev_keep {i : Nat} {g : Gv} {t : Td} {R : List SP} {s : Sto} (ht : t.Good) (hl : g.waits.length < 100000) (o : Own (GvA i g :: R) s) : ∃ s', m_Giver_keep [.obj i, t.nm, t.bd, .int t.g, t.kp] s = .ok .non s' ∧ Own (GvA i (g.keep t) :: R) s' := by
  have hL := ht.look s
  unfold Gv.keep
  by_cases h : 0 < t.g
  · rw [if_pos h]
    obtain ⟨w, f, o⟩ := own_gv.mp o
    have e1 := insD_obj o.get
    have h2 := (own2 o).get
    have e2 := isLst_obj h2
    have e3 := dApp_at (y := .tup [t.nm, t.bd, .int t.g, t.kp]) h2 (by rw [List.length_map]; omega)
    have o2 := (own2 o).set (.lst (g.waits.map Td.d ++ [.tup [t.nm, t.bd, .int t.g, t.kp]]))
    refine ⟨_, ?_, own_gv.mpr ⟨w, f, show Own (At i (insG { g with waits := g.waits ++ [t] } w f) :: At w (.lst ((g.waits ++ [t]).map Td.d)) :: At f (.lst (g.flies.map Fy.d)) :: R) _ by rw [List.map_append]; exact own2 o2⟩⟩
    unfold m_Giver_keep b_Giver_keep
    simp only [fnOf, ev_seq, ev_asg, sBnd_def, ev_op, ev_un, bnd_def, ev_call, evs_cons, evs_nil, ev_var, ev_c, ev_if, ev_next, ev_expr, ev_tru, ev_bl, ev_and, ev_or, ev_not, ev_yes, ev_andE, ev_orE, ev_notE, ev_ifE, ev_chain, ofB_some, ofO_some, ofO_none, truD_non, truD_bl, truD_int, truD_str, truD_tup, truD_lst, truD_lsk, ev_tup, ev_lst, ev_nwF, ev_nwM, ev_meth, ev_make, ev_fld, ev_setF, ev_bm1, asQ_tup, asQ_lst, asQ_lsk, asL_lst, asL_lsk, dLen_tup, dLen_lst, dLen_lsk, dLen_str, dIx_tup, dIx_lst, dIx_lsk, dIx_str, dAdd_int, dNeg_int, isN_def, notN_def, isNon_non, isNon_int, isNon_bl, isNon_str, isNon_tup, isNon_lst, isNon_obj, isNon_exc, dEq_int, dNe_int, dEq_str, dNe_str, dEq_bl, atI_zero, atI_one, atI_2, atI_3, atI_4, atI_5, atI_6, atI_7, atI_8, atI_9, atI_10, atI_11, atI_12, atI_m1, ev_gT, setAll_nil, setAll_cons, iOp_int, ev_gN, ev_ret, List.map_cons, List.map_nil, List.length_cons, List.length_nil, rep_zero, rep_succ, List.cons_append, List.nil_append, List.getElem?_cons_zero, List.getElem?_cons_succ, List.set_cons_zero, List.set_cons_succ, Nat.sub_self, Nat.reduceAdd, Nat.reduceSub, Option.map_some, Option.bind_some, if_true, Bool.not_true, Bool.not_false, Bool.false_eq_true, if_false, decide_true, decide_false, Int.reduceBEq, Int.reduceEq, Int.reduceLT, Int.reduceLE, Int.reduceNeg, Int.reduceAdd, Int.reduceSub, Int.reduceMul, Int.reduceToNat, Nat.reduceLT, Nat.reduceLeDiff, beq_self_eq_true, reduceIte, eq_self, Int.reduceNe, Int.reduceBNe, not_true_eq_false, not_false_eq_true, true_and, and_true, true_or, or_true, false_or, or_false, and_false, false_and, decide_eq_true_eq, Bool.true_and, Bool.and_true, Bool.false_and, Bool.and_false, Bool.true_or, Bool.or_true, Bool.false_or, Bool.or_false, hL, dGt, h, e1, e2, e3]
  · rw [if_neg h]
    refine ⟨s, ?_, o⟩
    unfold m_Giver_keep b_Giver_keep
    simp only [fnOf, ev_seq, ev_asg, sBnd_def, ev_op, ev_un, bnd_def, ev_call, evs_cons, evs_nil, ev_var, ev_c, ev_if, ev_next, ev_expr, ev_tru, ev_bl, ev_and, ev_or, ev_not, ev_yes, ev_andE, ev_orE, ev_notE, ev_ifE, ev_chain, ofB_some, ofO_some, ofO_none, truD_non, truD_bl, truD_int, truD_str, truD_tup, truD_lst, truD_lsk, ev_tup, ev_lst, ev_nwF, ev_nwM, ev_meth, ev_make, ev_fld, ev_setF, ev_bm1, asQ_tup, asQ_lst, asQ_lsk, asL_lst, asL_lsk, dLen_tup, dLen_lst, dLen_lsk, dLen_str, dIx_tup, dIx_lst, dIx_lsk, dIx_str, dAdd_int, dNeg_int, isN_def, notN_def, isNon_non, isNon_int, isNon_bl, isNon_str, isNon_tup, isNon_lst, isNon_obj, isNon_exc, dEq_int, dNe_int, dEq_str, dNe_str, dEq_bl, atI_zero, atI_one, atI_2, atI_3, atI_4, atI_5, atI_6, atI_7, atI_8, atI_9, atI_10, atI_11, atI_12, atI_m1, ev_gT, setAll_nil, setAll_cons, iOp_int, ev_gN, ev_ret, List.map_cons, List.map_nil, List.length_cons, List.length_nil, rep_zero, rep_succ, List.cons_append, List.nil_append, List.getElem?_cons_zero, List.getElem?_cons_succ, List.set_cons_zero, List.set_cons_succ, Nat.sub_self, Nat.reduceAdd, Nat.reduceSub, Option.map_some, Option.bind_some, if_true, Bool.not_true, Bool.not_false, Bool.false_eq_true, if_false, decide_true, decide_false, Int.reduceBEq, Int.reduceEq, Int.reduceLT, Int.reduceLE, Int.reduceNeg, Int.reduceAdd, Int.reduceSub, Int.reduceMul, Int.reduceToNat, Nat.reduceLT, Nat.reduceLeDiff, beq_self_eq_true, reduceIte, eq_self, Int.reduceNe, Int.reduceBNe, not_true_eq_false, not_false_eq_true, true_and, and_true, true_or, or_true, false_or, or_false, and_false, false_and, decide_eq_true_eq, Bool.true_and, Bool.and_true, Bool.false_and, Bool.and_false, Bool.true_or, Bool.or_true, Bool.false_or, Bool.or_false, hL, dGt, h]
/-- a tiding said: what is sent, and how the giver stands then -/
def Gv.say (g : Gv) (t : Td) : Gv × List Dt := if t.g = 0 then (g, [sayD t false 0]) else (g.keep t).pump
theorem ev_say {i : Nat} {g : Gv} {t : Td} {R : List SP} {s : Sto} (ht : t.Good) (k : g.Ok) (hl : g.waits.length < 5000) (o : Own (GvA i g :: R) s) :
    ∃ r s', m_Giver_say [.obj i, t.nm, t.bd, .int t.g, t.kp] s = .ok r s' ∧ (g.say t).1.Ok ∧ Own (LsA r (g.say t).2 :: GvA i (g.say t).1 :: R) s' := by
  have hL := ht.look s
  unfold Gv.say
  by_cases h : t.g = 0
  · rw [if_pos h]
    refine ⟨_, s, ?_, k, own_ls.mpr (.inl ⟨rfl, o⟩)⟩
    unfold m_Giver_say b_Giver_say sayD
    rw [h] at hL ⊢
    simp only [fnOf, ev_seq, ev_asg, sBnd_def, ev_op, ev_un, bnd_def, ev_call, evs_cons, evs_nil, ev_var, ev_c, ev_if, ev_next, ev_expr, ev_tru, ev_bl, ev_and, ev_or, ev_not, ev_yes, ev_andE, ev_orE, ev_notE, ev_ifE, ev_chain, ofB_some, ofO_some, ofO_none, truD_non, truD_bl, truD_int, truD_str, truD_tup, truD_lst, truD_lsk, ev_tup, ev_lst, ev_nwF, ev_nwM, ev_meth, ev_make, ev_fld, ev_setF, ev_bm1, asQ_tup, asQ_lst, asQ_lsk, asL_lst, asL_lsk, dLen_tup, dLen_lst, dLen_lsk, dLen_str, dIx_tup, dIx_lst, dIx_lsk, dIx_str, dAdd_int, dNeg_int, isN_def, notN_def, isNon_non, isNon_int, isNon_bl, isNon_str, isNon_tup, isNon_lst, isNon_obj, isNon_exc, dEq_int, dNe_int, dEq_str, dNe_str, dEq_bl, atI_zero, atI_one, atI_2, atI_3, atI_4, atI_5, atI_6, atI_7, atI_8, atI_9, atI_10, atI_11, atI_12, atI_m1, ev_gT, setAll_nil, setAll_cons, iOp_int, ev_gN, ev_ret, List.map_cons, List.map_nil, List.length_cons, List.length_nil, rep_zero, rep_succ, List.cons_append, List.nil_append, List.getElem?_cons_zero, List.getElem?_cons_succ, List.set_cons_zero, List.set_cons_succ, Nat.sub_self, Nat.reduceAdd, Nat.reduceSub, Option.map_some, Option.bind_some, if_true, Bool.not_true, Bool.not_false, Bool.false_eq_true, if_false, decide_true, decide_false, Int.reduceBEq, Int.reduceEq, Int.reduceLT, Int.reduceLE, Int.reduceNeg, Int.reduceAdd, Int.reduceSub, Int.reduceMul, Int.reduceToNat, Nat.reduceLT, Nat.reduceLeDiff, beq_self_eq_true, reduceIte, eq_self, Int.reduceNe, Int.reduceBNe, not_true_eq_false, not_false_eq_true, true_and, and_true, true_or, or_true, false_or, or_false, and_false, false_and, decide_eq_true_eq, Bool.true_and, Bool.and_true, Bool.false_and, Bool.and_false, Bool.true_or, Bool.or_true, Bool.false_or, Bool.or_false, hL]
  · rw [if_neg h]
    obtain ⟨s1, h1, o1⟩ := ev_keep ht (by omega) o
    obtain ⟨p, s2, h2, k2, o2⟩ := ev_pump (k.keep (t := t) hl) o1
    obtain ⟨w, f, o0⟩ := own_gv.mp o
    have e1 := insD_obj o0.get
    obtain ⟨w1, f1, o01⟩ := own_gv.mp o1
    have e2 := insD_obj o01.get
    refine ⟨.obj p, s2, ?_, k2, own_ls.mpr (.inr ⟨p, rfl, o2⟩)⟩
    have hb : (t.g == 0) = false := by simpa using h
    unfold m_Giver_say b_Giver_say
    simp only [fnOf, ev_seq, ev_asg, sBnd_def, ev_op, ev_un, bnd_def, ev_call, evs_cons, evs_nil, ev_var, ev_c, ev_if, ev_next, ev_expr, ev_tru, ev_bl, ev_and, ev_or, ev_not, ev_yes, ev_andE, ev_orE, ev_notE, ev_ifE, ev_chain, ofB_some, ofO_some, ofO_none, truD_non, truD_bl, truD_int, truD_str, truD_tup, truD_lst, truD_lsk, ev_tup, ev_lst, ev_nwF, ev_nwM, ev_meth, ev_make, ev_fld, ev_setF, ev_bm1, asQ_tup, asQ_lst, asQ_lsk, asL_lst, asL_lsk, dLen_tup, dLen_lst, dLen_lsk, dLen_str, dIx_tup, dIx_lst, dIx_lsk, dIx_str, dAdd_int, dNeg_int, isN_def, notN_def, isNon_non, isNon_int, isNon_bl, isNon_str, isNon_tup, isNon_lst, isNon_obj, isNon_exc, dEq_int, dNe_int, dEq_str, dNe_str, dEq_bl, atI_zero, atI_one, atI_2, atI_3, atI_4, atI_5, atI_6, atI_7, atI_8, atI_9, atI_10, atI_11, atI_12, atI_m1, ev_gT, setAll_nil, setAll_cons, iOp_int, ev_gN, ev_ret, List.map_cons, List.map_nil, List.length_cons, List.length_nil, rep_zero, rep_succ, List.cons_append, List.nil_append, List.getElem?_cons_zero, List.getElem?_cons_succ, List.set_cons_zero, List.set_cons_succ, Nat.sub_self, Nat.reduceAdd, Nat.reduceSub, Option.map_some, Option.bind_some, if_true, Bool.not_true, Bool.not_false, Bool.false_eq_true, if_false, decide_true, decide_false, Int.reduceBEq, Int.reduceEq, Int.reduceLT, Int.reduceLE, Int.reduceNeg, Int.reduceAdd, Int.reduceSub, Int.reduceMul, Int.reduceToNat, Nat.reduceLT, Nat.reduceLeDiff, beq_self_eq_true, reduceIte, eq_self, Int.reduceNe, Int.reduceBNe, not_true_eq_false, not_false_eq_true, true_and, and_true, true_or, or_true, false_or, or_false, and_false, false_and, decide_eq_true_eq, Bool.true_and, Bool.and_true, Bool.false_and, Bool.and_false, Bool.true_or, Bool.or_true, Bool.false_or, Bool.or_false, hL, hb, e1, h1, e2, h2]
/-! where a number is under way -/
def isAt (fl : List Fy) (n g : Int) (k : Nat) : Bool := match fl[k]? with
  | some f => f.n == n && f.g == g
  | none => false
def Gv.place (g : Gv) (n gr : Int) : Option Nat := ((List.range g.flies.length).filter (isAt g.flies n gr)).head?
def oInt : Option Nat → Dt
  | some k => .int k
  | none => .non
theorem dEq_pair {a b c d : Int} {s : Sto} : dEq (.tup [.int a, .int b]) (.tup [.int c, .int d]) s = .ok (.bl (a == c && b == d)) s := by
  have : dEqB s (.tup [.int a, .int b]) (.tup [.int c, .int d]) = some (a == c && b == d) := by
    simp [dEqB, toPyS, toPy, toPys, PyData.depth, PyData.depthAll, PyData.eqv, PyData.eqvAll]
  simp only [dEq, this, Option.map_some, ofO_some]
theorem place_lc {i f : Nat} {s : Sto} {fl : List Fy} {n gr : Int} {w : Nat} {a b c : Dt} (h1 : s[i]? = some (.ins 0 [a, b, c, .obj w, .obj f])) (h2 : s[f]? = some (.lst (fl.map Fy.d))) :
    lcGo (gN 4) (tBl (eOp dEq (eSl nwF (eOp dIx (eFld 0 4 (eVar 0)) (eVar 4)) none (some (eC (.int 2)))) (eTup [eVar 1, eVar 2]))) (eVar 4) (fun _ => True) ((List.range fl.length).map fun (k : Nat) => .int k) [some (.obj i), some (.int n), some (.int gr), none, none] s =
      .ok (((List.range fl.length).filter (isAt fl n gr)).map fun (k : Nat) => .int k) s := by
  refine lc_filter trivial fun k hk => ⟨_, rfl, ?_, fun _ => by simp only [fnOf, ev_seq, ev_asg, sBnd_def, ev_op, ev_un, bnd_def, ev_call, evs_cons, evs_nil, ev_var, ev_c, ev_if, ev_next, ev_expr, ev_tru, ev_bl, ev_and, ev_or, ev_not, ev_yes, ev_andE, ev_orE, ev_notE, ev_ifE, ev_chain, ofB_some, ofO_some, ofO_none, truD_non, truD_bl, truD_int, truD_str, truD_tup, truD_lst, truD_lsk, ev_tup, ev_lst, ev_nwF, ev_nwM, ev_meth, ev_make, ev_fld, ev_setF, ev_bm1, asQ_tup, asQ_lst, asQ_lsk, asL_lst, asL_lsk, dLen_tup, dLen_lst, dLen_lsk, dLen_str, dIx_tup, dIx_lst, dIx_lsk, dIx_str, dAdd_int, dNeg_int, isN_def, notN_def, isNon_non, isNon_int, isNon_bl, isNon_str, isNon_tup, isNon_lst, isNon_obj, isNon_exc, dEq_int, dNe_int, dEq_str, dNe_str, dEq_bl, atI_zero, atI_one, atI_2, atI_3, atI_4, atI_5, atI_6, atI_7, atI_8, atI_9, atI_10, atI_11, atI_12, atI_m1, ev_gT, setAll_nil, setAll_cons, iOp_int, ev_gN, ev_ret, List.map_cons, List.map_nil, List.length_cons, List.length_nil, rep_zero, rep_succ, List.cons_append, List.nil_append, List.getElem?_cons_zero, List.getElem?_cons_succ, List.set_cons_zero, List.set_cons_succ, Nat.sub_self, Nat.reduceAdd, Nat.reduceSub, Option.map_some, Option.bind_some, if_true, Bool.not_true, Bool.not_false, Bool.false_eq_true, if_false, decide_true, decide_false, Int.reduceBEq, Int.reduceEq, Int.reduceLT, Int.reduceLE, Int.reduceNeg, Int.reduceAdd, Int.reduceSub, Int.reduceMul, Int.reduceToNat, Nat.reduceLT, Nat.reduceLeDiff, beq_self_eq_true, reduceIte, eq_self, Int.reduceNe, Int.reduceBNe, not_true_eq_false, not_false_eq_true, true_and, and_true, true_or, or_true, false_or, or_false, and_false, false_and, decide_eq_true_eq, Bool.true_and, Bool.and_true, Bool.false_and, Bool.and_false, Bool.true_or, Bool.or_true, Bool.false_or, Bool.or_false]⟩
  have hk : k < fl.length := List.mem_range.mp hk
  have e1 := insD_obj h1
  have e2 : dIx (.obj f) (.int k) s = .ok (fl[k].d) s := by
    rw [dIx_obj h2, atI_ofNat, List.getElem?_map, List.getElem?_eq_getElem hk]
    rfl
  have e3 : isAt fl n gr k = (fl[k].n == n && fl[k].g == gr) := by unfold isAt; rw [List.getElem?_eq_getElem hk]
  have e4 : dSl nwF fl[k].d none (some 2) s = .ok (.tup [.int fl[k].n, .int fl[k].g]) s := rfl
  simp only [fnOf, ev_seq, ev_asg, sBnd_def, ev_op, ev_un, bnd_def, ev_call, evs_cons, evs_nil, ev_var, ev_c, ev_if, ev_next, ev_expr, ev_tru, ev_bl, ev_and, ev_or, ev_not, ev_yes, ev_andE, ev_orE, ev_notE, ev_ifE, ev_chain, ofB_some, ofO_some, ofO_none, truD_non, truD_bl, truD_int, truD_str, truD_tup, truD_lst, truD_lsk, ev_tup, ev_lst, ev_nwF, ev_nwM, ev_meth, ev_make, ev_fld, ev_setF, ev_bm1, asQ_tup, asQ_lst, asQ_lsk, asL_lst, asL_lsk, dLen_tup, dLen_lst, dLen_lsk, dLen_str, dIx_tup, dIx_lst, dIx_lsk, dIx_str, dAdd_int, dNeg_int, isN_def, notN_def, isNon_non, isNon_int, isNon_bl, isNon_str, isNon_tup, isNon_lst, isNon_obj, isNon_exc, dEq_int, dNe_int, dEq_str, dNe_str, dEq_bl, atI_zero, atI_one, atI_2, atI_3, atI_4, atI_5, atI_6, atI_7, atI_8, atI_9, atI_10, atI_11, atI_12, atI_m1, ev_gT, setAll_nil, setAll_cons, iOp_int, ev_gN, ev_ret, List.map_cons, List.map_nil, List.length_cons, List.length_nil, rep_zero, rep_succ, List.cons_append, List.nil_append, List.getElem?_cons_zero, List.getElem?_cons_succ, List.set_cons_zero, List.set_cons_succ, Nat.sub_self, Nat.reduceAdd, Nat.reduceSub, Option.map_some, Option.bind_some, if_true, Bool.not_true, Bool.not_false, Bool.false_eq_true, if_false, decide_true, decide_false, Int.reduceBEq, Int.reduceEq, Int.reduceLT, Int.reduceLE, Int.reduceNeg, Int.reduceAdd, Int.reduceSub, Int.reduceMul, Int.reduceToNat, Nat.reduceLT, Nat.reduceLeDiff, beq_self_eq_true, reduceIte, eq_self, Int.reduceNe, Int.reduceBNe, not_true_eq_false, not_false_eq_true, true_and, and_true, true_or, or_true, false_or, or_false, and_false, false_and, decide_eq_true_eq, Bool.true_and, Bool.and_true, Bool.false_and, Bool.and_false, Bool.true_or, Bool.or_true, Bool.false_or, Bool.or_false, ev_sl, evp_none, evp_some, e1, e2, e4, dEq_pair, e3]
theorem ev_place {i : Nat} {g : Gv} {n gr : Int} {R : List SP} {s : Sto} (hl : g.flies.length ≤ 65535) (o : Own (GvA i g :: R) s) : m_Giver_place_of [.obj i, .int n, .int gr] s = .ok (oInt (g.place n gr)) s := by
  obtain ⟨w, f, o⟩ := own_gv.mp o
  have e1 := insD_obj o.get
  have h2 := (own3 o).get
  have e2 := dLen_obj h2
  rw [List.length_map] at e2
  have e3 := place_lc (n := n) (gr := gr) o.get h2
  have g2 : (g.flies.length : Int) ≤ 16777216 ∧ -(2 ^ 62) ≤ (g.flies.length : Int) := by omega
  unfold m_Giver_place_of b_Giver_place_of Gv.place
  cases hq : (List.range g.flies.length).filter (isAt g.flies n gr) with
  | nil =>
    rw [hq] at e3
    simp only [fnOf, ev_seq, ev_asg, sBnd_def, ev_op, ev_un, bnd_def, ev_call, evs_cons, evs_nil, ev_var, ev_c, ev_if, ev_next, ev_expr, ev_tru, ev_bl, ev_and, ev_or, ev_not, ev_yes, ev_andE, ev_orE, ev_notE, ev_ifE, ev_chain, ofB_some, ofO_some, ofO_none, truD_non, truD_bl, truD_int, truD_str, truD_tup, truD_lst, truD_lsk, ev_tup, ev_lst, ev_nwF, ev_nwM, ev_meth, ev_make, ev_fld, ev_setF, ev_bm1, asQ_tup, asQ_lst, asQ_lsk, asL_lst, asL_lsk, dLen_tup, dLen_lst, dLen_lsk, dLen_str, dIx_tup, dIx_lst, dIx_lsk, dIx_str, dAdd_int, dNeg_int, isN_def, notN_def, isNon_non, isNon_int, isNon_bl, isNon_str, isNon_tup, isNon_lst, isNon_obj, isNon_exc, dEq_int, dNe_int, dEq_str, dNe_str, dEq_bl, atI_zero, atI_one, atI_2, atI_3, atI_4, atI_5, atI_6, atI_7, atI_8, atI_9, atI_10, atI_11, atI_12, atI_m1, ev_gT, setAll_nil, setAll_cons, iOp_int, ev_gN, ev_ret, List.map_cons, List.map_nil, List.length_cons, List.length_nil, rep_zero, rep_succ, List.cons_append, List.nil_append, List.getElem?_cons_zero, List.getElem?_cons_succ, List.set_cons_zero, List.set_cons_succ, Nat.sub_self, Nat.reduceAdd, Nat.reduceSub, Option.map_some, Option.bind_some, if_true, Bool.not_true, Bool.not_false, Bool.false_eq_true, if_false, decide_true, decide_false, Int.reduceBEq, Int.reduceEq, Int.reduceLT, Int.reduceLE, Int.reduceNeg, Int.reduceAdd, Int.reduceSub, Int.reduceMul, Int.reduceToNat, Nat.reduceLT, Nat.reduceLeDiff, beq_self_eq_true, reduceIte, eq_self, Int.reduceNe, Int.reduceBNe, not_true_eq_false, not_false_eq_true, true_and, and_true, true_or, or_true, false_or, or_false, and_false, false_and, decide_eq_true_eq, Bool.true_and, Bool.and_true, Bool.false_and, Bool.and_false, Bool.true_or, Bool.or_true, Bool.false_or, Bool.or_false, ev_lc, ev_iRange, wipeD_nil, wipeD_cons, bndN, e1, e2, g2, Int.toNat_natCast, e3, List.isEmpty_nil, List.head?_nil]
    rfl
  | cons k r =>
    rw [hq] at e3
    simp only [fnOf, ev_seq, ev_asg, sBnd_def, ev_op, ev_un, bnd_def, ev_call, evs_cons, evs_nil, ev_var, ev_c, ev_if, ev_next, ev_expr, ev_tru, ev_bl, ev_and, ev_or, ev_not, ev_yes, ev_andE, ev_orE, ev_notE, ev_ifE, ev_chain, ofB_some, ofO_some, ofO_none, truD_non, truD_bl, truD_int, truD_str, truD_tup, truD_lst, truD_lsk, ev_tup, ev_lst, ev_nwF, ev_nwM, ev_meth, ev_make, ev_fld, ev_setF, ev_bm1, asQ_tup, asQ_lst, asQ_lsk, asL_lst, asL_lsk, dLen_tup, dLen_lst, dLen_lsk, dLen_str, dIx_tup, dIx_lst, dIx_lsk, dIx_str, dAdd_int, dNeg_int, isN_def, notN_def, isNon_non, isNon_int, isNon_bl, isNon_str, isNon_tup, isNon_lst, isNon_obj, isNon_exc, dEq_int, dNe_int, dEq_str, dNe_str, dEq_bl, atI_zero, atI_one, atI_2, atI_3, atI_4, atI_5, atI_6, atI_7, atI_8, atI_9, atI_10, atI_11, atI_12, atI_m1, ev_gT, setAll_nil, setAll_cons, iOp_int, ev_gN, ev_ret, List.map_cons, List.map_nil, List.length_cons, List.length_nil, rep_zero, rep_succ, List.cons_append, List.nil_append, List.getElem?_cons_zero, List.getElem?_cons_succ, List.set_cons_zero, List.set_cons_succ, Nat.sub_self, Nat.reduceAdd, Nat.reduceSub, Option.map_some, Option.bind_some, if_true, Bool.not_true, Bool.not_false, Bool.false_eq_true, if_false, decide_true, decide_false, Int.reduceBEq, Int.reduceEq, Int.reduceLT, Int.reduceLE, Int.reduceNeg, Int.reduceAdd, Int.reduceSub, Int.reduceMul, Int.reduceToNat, Nat.reduceLT, Nat.reduceLeDiff, beq_self_eq_true, reduceIte, eq_self, Int.reduceNe, Int.reduceBNe, not_true_eq_false, not_false_eq_true, true_and, and_true, true_or, or_true, false_or, or_false, and_false, false_and, decide_eq_true_eq, Bool.true_and, Bool.and_true, Bool.false_and, Bool.and_false, Bool.true_or, Bool.or_true, Bool.false_or, Bool.or_false, ev_lc, ev_iRange, wipeD_nil, wipeD_cons, bndN, e1, e2, g2, Int.toNat_natCast, e3, List.isEmpty_cons, List.head?_cons]
    rfl
/-! ### answers -/
def freeD (n : Int) : Dt := .tup [.str (Str.ofString "free"), .int n]
def Gv.held (g : Gv) (n : Int) : Gv × List Dt := match g.place n 2 with
  | some k => ({ g with flies := g.flies.set k ⟨n, 3, none⟩ }, [freeD n])
  | none => (g, if (g.place n 3).isSome = true then [freeD n] else [])
def Gv.gone (g : Gv) (n gr : Int) : Gv × List Dt := match g.place n gr with
  | some k => Gv.pump { g with flies := g.flies.take k ++ g.flies.drop (k + 1) }
  | none => (g, [])
theorem place_lt {g : Gv} {n gr : Int} {k : Nat} (h : g.place n gr = some k) : k < g.flies.length ∧ isAt g.flies n gr k = true := by
  unfold Gv.place at h
  have := List.mem_of_mem_head? (Option.mem_def.mpr h)
  rw [List.mem_filter, List.mem_range] at this
  exact this
theorem eqHeld : (Str.ofString "held" == Str.ofString "held") = true := by decide +kernel
theorem eqGotH : (Str.ofString "got" == Str.ofString "held") = false := by decide +kernel
theorem eqDoneH : (Str.ofString "done" == Str.ofString "held") = false := by decide +kernel
theorem eqGotG : (Str.ofString "got" == Str.ofString "got") = true := by decide +kernel
theorem eqDoneG : (Str.ofString "done" == Str.ofString "got") = false := by decide +kernel
theorem ev_took_held {i : Nat} {g : Gv} {n : Int} {R : List SP} {s : Sto} (hl : g.flies.length ≤ 65535) (o : Own (GvA i g :: R) s) :
    ∃ s', m_Giver_took [.obj i, .tup [.str (Str.ofString "held"), .int n]] s = .ok (.lst (g.held n).2) s' ∧ Own (GvA i (g.held n).1 :: R) s' := by
  have e2 := ev_place (n := n) (gr := 2) hl o
  have e3 := ev_place (n := n) (gr := 3) hl o
  obtain ⟨w, f, o1⟩ := own_gv.mp o
  have e1 := insD_obj o1.get
  have h3 := (own3 o1).get
  unfold Gv.held
  cases hp : g.place n 2 with
  | some k =>
    have hk := (place_lt hp).1
    have e4 := putAt_at (d := .tup [.int n, .int 3, .non]) h3 (by rw [List.length_map]; exact hk)
    have o2 := (own3 o1).set (.lst ((g.flies.map Fy.d).set k (.tup [.int n, .int 3, .non])))
    have q : (g.flies.map Fy.d).set k (.tup [.int n, .int 3, .non]) = (g.flies.set k ⟨n, 3, none⟩).map Fy.d := by rw [List.map_set]; rfl
    rw [q] at o2 e4
    rw [hp] at e2
    refine ⟨_, ?_, own_gv.mpr ⟨w, f, o2.ix [1, 2, 0]⟩⟩
    unfold m_Giver_took b_Giver_took u_Giver_took_1 u_Giver_took_2 freeD
    simp only [fnOf, ev_seq, ev_asg, sBnd_def, ev_op, ev_un, bnd_def, ev_call, evs_cons, evs_nil, ev_var, ev_c, ev_if, ev_next, ev_expr, ev_tru, ev_bl, ev_and, ev_or, ev_not, ev_yes, ev_andE, ev_orE, ev_notE, ev_ifE, ev_chain, ofB_some, ofO_some, ofO_none, truD_non, truD_bl, truD_int, truD_str, truD_tup, truD_lst, truD_lsk, ev_tup, ev_lst, ev_nwF, ev_nwM, ev_meth, ev_make, ev_fld, ev_setF, ev_bm1, asQ_tup, asQ_lst, asQ_lsk, asL_lst, asL_lsk, dLen_tup, dLen_lst, dLen_lsk, dLen_str, dIx_tup, dIx_lst, dIx_lsk, dIx_str, dAdd_int, dNeg_int, isN_def, notN_def, isNon_non, isNon_int, isNon_bl, isNon_str, isNon_tup, isNon_lst, isNon_obj, isNon_exc, dEq_int, dNe_int, dEq_str, dNe_str, dEq_bl, atI_zero, atI_one, atI_2, atI_3, atI_4, atI_5, atI_6, atI_7, atI_8, atI_9, atI_10, atI_11, atI_12, atI_m1, ev_gT, setAll_nil, setAll_cons, iOp_int, ev_gN, ev_ret, List.map_cons, List.map_nil, List.length_cons, List.length_nil, rep_zero, rep_succ, List.cons_append, List.nil_append, List.getElem?_cons_zero, List.getElem?_cons_succ, List.set_cons_zero, List.set_cons_succ, Nat.sub_self, Nat.reduceAdd, Nat.reduceSub, Option.map_some, Option.bind_some, if_true, Bool.not_true, Bool.not_false, Bool.false_eq_true, if_false, decide_true, decide_false, Int.reduceBEq, Int.reduceEq, Int.reduceLT, Int.reduceLE, Int.reduceNeg, Int.reduceAdd, Int.reduceSub, Int.reduceMul, Int.reduceToNat, Nat.reduceLT, Nat.reduceLeDiff, beq_self_eq_true, reduceIte, eq_self, Int.reduceNe, Int.reduceBNe, not_true_eq_false, not_false_eq_true, true_and, and_true, true_or, or_true, false_or, or_false, and_false, false_and, decide_eq_true_eq, Bool.true_and, Bool.and_true, Bool.false_and, Bool.and_false, Bool.true_or, Bool.or_true, Bool.false_or, Bool.or_false, eqHeld, e1, e2, oInt, e4, ev_setI]
  | none =>
    rw [hp] at e2
    refine ⟨s, ?_, o⟩
    unfold m_Giver_took b_Giver_took u_Giver_took_1 u_Giver_took_2 freeD
    cases hq : g.place n 3 with
    | some k =>
      rw [hq] at e3
      simp only [fnOf, ev_seq, ev_asg, sBnd_def, ev_op, ev_un, bnd_def, ev_call, evs_cons, evs_nil, ev_var, ev_c, ev_if, ev_next, ev_expr, ev_tru, ev_bl, ev_and, ev_or, ev_not, ev_yes, ev_andE, ev_orE, ev_notE, ev_ifE, ev_chain, ofB_some, ofO_some, ofO_none, truD_non, truD_bl, truD_int, truD_str, truD_tup, truD_lst, truD_lsk, ev_tup, ev_lst, ev_nwF, ev_nwM, ev_meth, ev_make, ev_fld, ev_setF, ev_bm1, asQ_tup, asQ_lst, asQ_lsk, asL_lst, asL_lsk, dLen_tup, dLen_lst, dLen_lsk, dLen_str, dIx_tup, dIx_lst, dIx_lsk, dIx_str, dAdd_int, dNeg_int, isN_def, notN_def, isNon_non, isNon_int, isNon_bl, isNon_str, isNon_tup, isNon_lst, isNon_obj, isNon_exc, dEq_int, dNe_int, dEq_str, dNe_str, dEq_bl, atI_zero, atI_one, atI_2, atI_3, atI_4, atI_5, atI_6, atI_7, atI_8, atI_9, atI_10, atI_11, atI_12, atI_m1, ev_gT, setAll_nil, setAll_cons, iOp_int, ev_gN, ev_ret, List.map_cons, List.map_nil, List.length_cons, List.length_nil, rep_zero, rep_succ, List.cons_append, List.nil_append, List.getElem?_cons_zero, List.getElem?_cons_succ, List.set_cons_zero, List.set_cons_succ, Nat.sub_self, Nat.reduceAdd, Nat.reduceSub, Option.map_some, Option.bind_some, if_true, Bool.not_true, Bool.not_false, Bool.false_eq_true, if_false, decide_true, decide_false, Int.reduceBEq, Int.reduceEq, Int.reduceLT, Int.reduceLE, Int.reduceNeg, Int.reduceAdd, Int.reduceSub, Int.reduceMul, Int.reduceToNat, Nat.reduceLT, Nat.reduceLeDiff, beq_self_eq_true, reduceIte, eq_self, Int.reduceNe, Int.reduceBNe, not_true_eq_false, not_false_eq_true, true_and, and_true, true_or, or_true, false_or, or_false, and_false, false_and, decide_eq_true_eq, Bool.true_and, Bool.and_true, Bool.false_and, Bool.and_false, Bool.true_or, Bool.or_true, Bool.false_or, Bool.or_false, eqHeld, e1, e2, e3, oInt, Option.isSome_some]
    | none =>
      rw [hq] at e3
      simp only [fnOf, ev_seq, ev_asg, sBnd_def, ev_op, ev_un, bnd_def, ev_call, evs_cons, evs_nil, ev_var, ev_c, ev_if, ev_next, ev_expr, ev_tru, ev_bl, ev_and, ev_or, ev_not, ev_yes, ev_andE, ev_orE, ev_notE, ev_ifE, ev_chain, ofB_some, ofO_some, ofO_none, truD_non, truD_bl, truD_int, truD_str, truD_tup, truD_lst, truD_lsk, ev_tup, ev_lst, ev_nwF, ev_nwM, ev_meth, ev_make, ev_fld, ev_setF, ev_bm1, asQ_tup, asQ_lst, asQ_lsk, asL_lst, asL_lsk, dLen_tup, dLen_lst, dLen_lsk, dLen_str, dIx_tup, dIx_lst, dIx_lsk, dIx_str, dAdd_int, dNeg_int, isN_def, notN_def, isNon_non, isNon_int, isNon_bl, isNon_str, isNon_tup, isNon_lst, isNon_obj, isNon_exc, dEq_int, dNe_int, dEq_str, dNe_str, dEq_bl, atI_zero, atI_one, atI_2, atI_3, atI_4, atI_5, atI_6, atI_7, atI_8, atI_9, atI_10, atI_11, atI_12, atI_m1, ev_gT, setAll_nil, setAll_cons, iOp_int, ev_gN, ev_ret, List.map_cons, List.map_nil, List.length_cons, List.length_nil, rep_zero, rep_succ, List.cons_append, List.nil_append, List.getElem?_cons_zero, List.getElem?_cons_succ, List.set_cons_zero, List.set_cons_succ, Nat.sub_self, Nat.reduceAdd, Nat.reduceSub, Option.map_some, Option.bind_some, if_true, Bool.not_true, Bool.not_false, Bool.false_eq_true, if_false, decide_true, decide_false, Int.reduceBEq, Int.reduceEq, Int.reduceLT, Int.reduceLE, Int.reduceNeg, Int.reduceAdd, Int.reduceSub, Int.reduceMul, Int.reduceToNat, Nat.reduceLT, Nat.reduceLeDiff, beq_self_eq_true, reduceIte, eq_self, Int.reduceNe, Int.reduceBNe, not_true_eq_false, not_false_eq_true, true_and, and_true, true_or, or_true, false_or, or_false, and_false, false_and, decide_eq_true_eq, Bool.true_and, Bool.and_true, Bool.false_and, Bool.and_false, Bool.true_or, Bool.or_true, Bool.false_or, Bool.or_false, eqHeld, e1, e2, e3, oInt, Option.isSome_none]
theorem Gv.Ok.cut {g : Gv} (k : g.Ok) (j : Nat) : ({ g with flies := g.flies.take j ++ g.flies.drop (j + 1) } : Gv).Ok :=
  ⟨k.win, k.most, k.top, k.last, by
    have := k.few
    simp only [List.length_append, List.length_take, List.length_drop]
    omega, k.wl⟩
theorem gone_run {i : Nat} {g : Gv} {n gr : Int} {R : List SP} {s : Sto} {x : Dt} {y : Str} (k : g.Ok) (o : Own (GvA i g :: R) s) :
    ∃ r s', (∀ f, f [some (.obj i), some x, some (.str y), some (.int n), none] s = .fl (.nx [some (.obj i), some x, some (.str y), some (.int n), some (oInt (g.place n gr))]) s → (sSeq f (sSeq u_Giver_took_4 (sSeq u_Giver_took_5 u_Giver_took_6))) [some (.obj i), some x, some (.str y), some (.int n), none] s = .fl (.rt r) s') ∧ (g.gone n gr).1.Ok ∧ Own (LsA r (g.gone n gr).2 :: GvA i (g.gone n gr).1 :: R) s' := by
  unfold Gv.gone
  cases hp : g.place n gr with
  | none =>
    refine ⟨.lst [], s, fun F e2 => ?_, k, own_ls.mpr (.inl ⟨rfl, o⟩)⟩
    rw [ev_seq, e2]
    unfold u_Giver_took_4
    simp only [fnOf, ev_seq, ev_asg, sBnd_def, ev_op, ev_un, bnd_def, ev_call, evs_cons, evs_nil, ev_var, ev_c, ev_if, ev_next, ev_expr, ev_tru, ev_bl, ev_and, ev_or, ev_not, ev_yes, ev_andE, ev_orE, ev_notE, ev_ifE, ev_chain, ofB_some, ofO_some, ofO_none, truD_non, truD_bl, truD_int, truD_str, truD_tup, truD_lst, truD_lsk, ev_tup, ev_lst, ev_nwF, ev_nwM, ev_meth, ev_make, ev_fld, ev_setF, ev_bm1, asQ_tup, asQ_lst, asQ_lsk, asL_lst, asL_lsk, dLen_tup, dLen_lst, dLen_lsk, dLen_str, dIx_tup, dIx_lst, dIx_lsk, dIx_str, dAdd_int, dNeg_int, isN_def, notN_def, isNon_non, isNon_int, isNon_bl, isNon_str, isNon_tup, isNon_lst, isNon_obj, isNon_exc, dEq_int, dNe_int, dEq_str, dNe_str, dEq_bl, atI_zero, atI_one, atI_2, atI_3, atI_4, atI_5, atI_6, atI_7, atI_8, atI_9, atI_10, atI_11, atI_12, atI_m1, ev_gT, setAll_nil, setAll_cons, iOp_int, ev_gN, ev_ret, List.map_cons, List.map_nil, List.length_cons, List.length_nil, rep_zero, rep_succ, List.cons_append, List.nil_append, List.getElem?_cons_zero, List.getElem?_cons_succ, List.set_cons_zero, List.set_cons_succ, Nat.sub_self, Nat.reduceAdd, Nat.reduceSub, Option.map_some, Option.bind_some, if_true, Bool.not_true, Bool.not_false, Bool.false_eq_true, if_false, decide_true, decide_false, Int.reduceBEq, Int.reduceEq, Int.reduceLT, Int.reduceLE, Int.reduceNeg, Int.reduceAdd, Int.reduceSub, Int.reduceMul, Int.reduceToNat, Nat.reduceLT, Nat.reduceLeDiff, beq_self_eq_true, reduceIte, eq_self, Int.reduceNe, Int.reduceBNe, not_true_eq_false, not_false_eq_true, true_and, and_true, true_or, or_true, false_or, or_false, and_false, false_and, decide_eq_true_eq, Bool.true_and, Bool.and_true, Bool.false_and, Bool.and_false, Bool.true_or, Bool.or_true, Bool.false_or, Bool.or_false, oInt]
  | some j =>
    have hj := (place_lt hp).1
    obtain ⟨w, f, o1⟩ := own_gv.mp o
    have h1 := o1.get
    have e1 := insD_obj h1
    have h3 := (own3 o1).get
    have z1 : dSl nwF (.obj f) none (some (j : Int)) s = .ok (.lst ((g.flies.take j).map Fy.d)) s := by
      rw [dSl_obj h3, cut_take, List.map_take]; rfl
    have z2 : dSl nwF (.obj f) (some ((j : Int) + 1)) none s = .ok (.lst ((g.flies.drop (j + 1)).map Fy.d)) s := by
      rw [dSl_obj h3, show (j : Int) + 1 = ((j + 1 : Nat) : Int) by omega, cut_drop, List.map_drop]; rfl
    have hz : g.flies.length ≤ 65535 := by have := k.few; have := k.most; have := k.top; omega
    have z3 := dAdd_any (nw := nwM) (s := s) (x := .lst ((g.flies.take j).map Fy.d)) (y := .lst ((g.flies.drop (j + 1)).map Fy.d)) trkL_lst trkL_lst (by simp only [List.length_map, List.length_take, List.length_drop]; omega)
    rw [← List.map_append] at z3
    obtain ⟨s1, hs1⟩ : ∃ s1, s1 = (s ++ [Mo.lst ((g.flies.take j ++ g.flies.drop (j + 1)).map Fy.d)]).set i (insG { g with flies := g.flies.take j ++ g.flies.drop (j + 1) } w s.length) := ⟨_, rfl⟩
    have z4 : setFD (s ++ [Mo.lst ((g.flies.take j ++ g.flies.drop (j + 1)).map Fy.d)]) 0 4 (.obj i) (.obj s.length) = some s1 := by
      rw [hs1]
      exact setFD_obj (i := 4) (ds := [.int g.win, .int g.most, .int g.last, .obj w, .obj f]) (app_get h1) (by simp)
    have o2 : Own (GvA i { g with flies := g.flies.take j ++ g.flies.drop (j + 1) } :: R) s1 := by
      rw [hs1]
      have q := ((((own3 o1).drop).new (.lst ((g.flies.take j ++ g.flies.drop (j + 1)).map Fy.d))).ix [1, 2, 0]).set (insG { g with flies := g.flies.take j ++ g.flies.drop (j + 1) } w s.length)
      exact own_gv.mpr ⟨w, s.length, q⟩
    obtain ⟨p, s2, h4, k4, o4⟩ := ev_pump (k.cut j) o2
    obtain ⟨w3, f3, o3⟩ := own_gv.mp o2
    have e6 := insD_obj o3.get
    refine ⟨.obj p, s2, fun F e2 => ?_, k4, own_ls.mpr (.inr ⟨p, rfl, o4⟩)⟩
    have f4 : u_Giver_took_4 [some (.obj i), some x, some (.str y), some (.int n), some (.int j)] s = .fl (.nx [some (.obj i), some x, some (.str y), some (.int n), some (.int j)]) s := by
      unfold u_Giver_took_4
      simp only [fnOf, ev_seq, ev_asg, sBnd_def, ev_op, ev_un, bnd_def, ev_call, evs_cons, evs_nil, ev_var, ev_c, ev_if, ev_next, ev_expr, ev_tru, ev_bl, ev_and, ev_or, ev_not, ev_yes, ev_andE, ev_orE, ev_notE, ev_ifE, ev_chain, ofB_some, ofO_some, ofO_none, truD_non, truD_bl, truD_int, truD_str, truD_tup, truD_lst, truD_lsk, ev_tup, ev_lst, ev_nwF, ev_nwM, ev_meth, ev_make, ev_fld, ev_setF, ev_bm1, asQ_tup, asQ_lst, asQ_lsk, asL_lst, asL_lsk, dLen_tup, dLen_lst, dLen_lsk, dLen_str, dIx_tup, dIx_lst, dIx_lsk, dIx_str, dAdd_int, dNeg_int, isN_def, notN_def, isNon_non, isNon_int, isNon_bl, isNon_str, isNon_tup, isNon_lst, isNon_obj, isNon_exc, dEq_int, dNe_int, dEq_str, dNe_str, dEq_bl, atI_zero, atI_one, atI_2, atI_3, atI_4, atI_5, atI_6, atI_7, atI_8, atI_9, atI_10, atI_11, atI_12, atI_m1, ev_gT, setAll_nil, setAll_cons, iOp_int, ev_gN, ev_ret, List.map_cons, List.map_nil, List.length_cons, List.length_nil, rep_zero, rep_succ, List.cons_append, List.nil_append, List.getElem?_cons_zero, List.getElem?_cons_succ, List.set_cons_zero, List.set_cons_succ, Nat.sub_self, Nat.reduceAdd, Nat.reduceSub, Option.map_some, Option.bind_some, if_true, Bool.not_true, Bool.not_false, Bool.false_eq_true, if_false, decide_true, decide_false, Int.reduceBEq, Int.reduceEq, Int.reduceLT, Int.reduceLE, Int.reduceNeg, Int.reduceAdd, Int.reduceSub, Int.reduceMul, Int.reduceToNat, Nat.reduceLT, Nat.reduceLeDiff, beq_self_eq_true, reduceIte, eq_self, Int.reduceNe, Int.reduceBNe, not_true_eq_false, not_false_eq_true, true_and, and_true, true_or, or_true, false_or, or_false, and_false, false_and, decide_eq_true_eq, Bool.true_and, Bool.and_true, Bool.false_and, Bool.and_false, Bool.true_or, Bool.or_true, Bool.false_or, Bool.or_false]
    have f5 : u_Giver_took_5 [some (.obj i), some x, some (.str y), some (.int n), some (.int j)] s = .fl (.nx [some (.obj i), some x, some (.str y), some (.int n), some (.int j)]) s1 := by
      unfold u_Giver_took_5
      simp only [fnOf, ev_seq, ev_asg, sBnd_def, ev_op, ev_un, bnd_def, ev_call, evs_cons, evs_nil, ev_var, ev_c, ev_if, ev_next, ev_expr, ev_tru, ev_bl, ev_and, ev_or, ev_not, ev_yes, ev_andE, ev_orE, ev_notE, ev_ifE, ev_chain, ofB_some, ofO_some, ofO_none, truD_non, truD_bl, truD_int, truD_str, truD_tup, truD_lst, truD_lsk, ev_tup, ev_lst, ev_nwF, ev_nwM, ev_meth, ev_make, ev_fld, ev_setF, ev_bm1, asQ_tup, asQ_lst, asQ_lsk, asL_lst, asL_lsk, dLen_tup, dLen_lst, dLen_lsk, dLen_str, dIx_tup, dIx_lst, dIx_lsk, dIx_str, dAdd_int, dNeg_int, isN_def, notN_def, isNon_non, isNon_int, isNon_bl, isNon_str, isNon_tup, isNon_lst, isNon_obj, isNon_exc, dEq_int, dNe_int, dEq_str, dNe_str, dEq_bl, atI_zero, atI_one, atI_2, atI_3, atI_4, atI_5, atI_6, atI_7, atI_8, atI_9, atI_10, atI_11, atI_12, atI_m1, ev_gT, setAll_nil, setAll_cons, iOp_int, ev_gN, ev_ret, List.map_cons, List.map_nil, List.length_cons, List.length_nil, rep_zero, rep_succ, List.cons_append, List.nil_append, List.getElem?_cons_zero, List.getElem?_cons_succ, List.set_cons_zero, List.set_cons_succ, Nat.sub_self, Nat.reduceAdd, Nat.reduceSub, Option.map_some, Option.bind_some, if_true, Bool.not_true, Bool.not_false, Bool.false_eq_true, if_false, decide_true, decide_false, Int.reduceBEq, Int.reduceEq, Int.reduceLT, Int.reduceLE, Int.reduceNeg, Int.reduceAdd, Int.reduceSub, Int.reduceMul, Int.reduceToNat, Nat.reduceLT, Nat.reduceLeDiff, beq_self_eq_true, reduceIte, eq_self, Int.reduceNe, Int.reduceBNe, not_true_eq_false, not_false_eq_true, true_and, and_true, true_or, or_true, false_or, or_false, and_false, false_and, decide_eq_true_eq, Bool.true_and, Bool.and_true, Bool.false_and, Bool.and_false, Bool.true_or, Bool.or_true, Bool.false_or, Bool.or_false, ev_sl, evp_some, evp_none, e1, z1, z2, z3, z4]
    have f6 : u_Giver_took_6 [some (.obj i), some x, some (.str y), some (.int n), some (.int j)] s1 = .fl (.rt (.obj p)) s2 := by
      unfold u_Giver_took_6
      simp only [fnOf, ev_seq, ev_asg, sBnd_def, ev_op, ev_un, bnd_def, ev_call, evs_cons, evs_nil, ev_var, ev_c, ev_if, ev_next, ev_expr, ev_tru, ev_bl, ev_and, ev_or, ev_not, ev_yes, ev_andE, ev_orE, ev_notE, ev_ifE, ev_chain, ofB_some, ofO_some, ofO_none, truD_non, truD_bl, truD_int, truD_str, truD_tup, truD_lst, truD_lsk, ev_tup, ev_lst, ev_nwF, ev_nwM, ev_meth, ev_make, ev_fld, ev_setF, ev_bm1, asQ_tup, asQ_lst, asQ_lsk, asL_lst, asL_lsk, dLen_tup, dLen_lst, dLen_lsk, dLen_str, dIx_tup, dIx_lst, dIx_lsk, dIx_str, dAdd_int, dNeg_int, isN_def, notN_def, isNon_non, isNon_int, isNon_bl, isNon_str, isNon_tup, isNon_lst, isNon_obj, isNon_exc, dEq_int, dNe_int, dEq_str, dNe_str, dEq_bl, atI_zero, atI_one, atI_2, atI_3, atI_4, atI_5, atI_6, atI_7, atI_8, atI_9, atI_10, atI_11, atI_12, atI_m1, ev_gT, setAll_nil, setAll_cons, iOp_int, ev_gN, ev_ret, List.map_cons, List.map_nil, List.length_cons, List.length_nil, rep_zero, rep_succ, List.cons_append, List.nil_append, List.getElem?_cons_zero, List.getElem?_cons_succ, List.set_cons_zero, List.set_cons_succ, Nat.sub_self, Nat.reduceAdd, Nat.reduceSub, Option.map_some, Option.bind_some, if_true, Bool.not_true, Bool.not_false, Bool.false_eq_true, if_false, decide_true, decide_false, Int.reduceBEq, Int.reduceEq, Int.reduceLT, Int.reduceLE, Int.reduceNeg, Int.reduceAdd, Int.reduceSub, Int.reduceMul, Int.reduceToNat, Nat.reduceLT, Nat.reduceLeDiff, beq_self_eq_true, reduceIte, eq_self, Int.reduceNe, Int.reduceBNe, not_true_eq_false, not_false_eq_true, true_and, and_true, true_or, or_true, false_or, or_false, and_false, false_and, decide_eq_true_eq, Bool.true_and, Bool.and_true, Bool.false_and, Bool.and_false, Bool.true_or, Bool.or_true, Bool.false_or, Bool.or_false, e6, h4]
    rw [ev_seq, e2]
    simp only [oInt, ev_seq, f4, f5, f6]
theorem ev_took_gone {i : Nat} {g : Gv} {n : Int} {R : List SP} {s : Sto} {b : Bool} (k : g.Ok) (o : Own (GvA i g :: R) s) :
    ∃ r s', m_Giver_took [.obj i, .tup [.str (if b then Str.ofString "got" else Str.ofString "done"), .int n]] s = .ok r s' ∧ (g.gone n (if b then 1 else 3)).1.Ok ∧ Own (LsA r (g.gone n (if b then 1 else 3)).2 :: GvA i (g.gone n (if b then 1 else 3)).1 :: R) s' := by
  have hz : g.flies.length ≤ 65535 := by have := k.few; have := k.most; have := k.top; omega
  obtain ⟨w, f, o1⟩ := own_gv.mp o
  have e1 := insD_obj o1.get
  obtain ⟨r, s', h1, h2, h3⟩ := gone_run (n := n) (gr := if b then 1 else 3) (x := .tup [.str (if b then Str.ofString "got" else Str.ofString "done"), .int n]) (y := if b then Str.ofString "got" else Str.ofString "done") k o
  refine ⟨r, s', ?_, h2, h3⟩
  have e2 := ev_place (n := n) (gr := if b then 1 else 3) hz o
  have f3 := h1 u_Giver_took_3 (by
    unfold u_Giver_took_3
    cases b
    · simp only [Bool.false_eq_true, if_false] at e2 ⊢
      simp only [fnOf, ev_seq, ev_asg, sBnd_def, ev_op, ev_un, bnd_def, ev_call, evs_cons, evs_nil, ev_var, ev_c, ev_if, ev_next, ev_expr, ev_tru, ev_bl, ev_and, ev_or, ev_not, ev_yes, ev_andE, ev_orE, ev_notE, ev_ifE, ev_chain, ofB_some, ofO_some, ofO_none, truD_non, truD_bl, truD_int, truD_str, truD_tup, truD_lst, truD_lsk, ev_tup, ev_lst, ev_nwF, ev_nwM, ev_meth, ev_make, ev_fld, ev_setF, ev_bm1, asQ_tup, asQ_lst, asQ_lsk, asL_lst, asL_lsk, dLen_tup, dLen_lst, dLen_lsk, dLen_str, dIx_tup, dIx_lst, dIx_lsk, dIx_str, dAdd_int, dNeg_int, isN_def, notN_def, isNon_non, isNon_int, isNon_bl, isNon_str, isNon_tup, isNon_lst, isNon_obj, isNon_exc, dEq_int, dNe_int, dEq_str, dNe_str, dEq_bl, atI_zero, atI_one, atI_2, atI_3, atI_4, atI_5, atI_6, atI_7, atI_8, atI_9, atI_10, atI_11, atI_12, atI_m1, ev_gT, setAll_nil, setAll_cons, iOp_int, ev_gN, ev_ret, List.map_cons, List.map_nil, List.length_cons, List.length_nil, rep_zero, rep_succ, List.cons_append, List.nil_append, List.getElem?_cons_zero, List.getElem?_cons_succ, List.set_cons_zero, List.set_cons_succ, Nat.sub_self, Nat.reduceAdd, Nat.reduceSub, Option.map_some, Option.bind_some, if_true, Bool.not_true, Bool.not_false, Bool.false_eq_true, if_false, decide_true, decide_false, Int.reduceBEq, Int.reduceEq, Int.reduceLT, Int.reduceLE, Int.reduceNeg, Int.reduceAdd, Int.reduceSub, Int.reduceMul, Int.reduceToNat, Nat.reduceLT, Nat.reduceLeDiff, beq_self_eq_true, reduceIte, eq_self, Int.reduceNe, Int.reduceBNe, not_true_eq_false, not_false_eq_true, true_and, and_true, true_or, or_true, false_or, or_false, and_false, false_and, decide_eq_true_eq, Bool.true_and, Bool.and_true, Bool.false_and, Bool.and_false, Bool.true_or, Bool.or_true, Bool.false_or, Bool.or_false, eqDoneG, e1, e2]
    · simp only [if_true] at e2 ⊢
      simp only [fnOf, ev_seq, ev_asg, sBnd_def, ev_op, ev_un, bnd_def, ev_call, evs_cons, evs_nil, ev_var, ev_c, ev_if, ev_next, ev_expr, ev_tru, ev_bl, ev_and, ev_or, ev_not, ev_yes, ev_andE, ev_orE, ev_notE, ev_ifE, ev_chain, ofB_some, ofO_some, ofO_none, truD_non, truD_bl, truD_int, truD_str, truD_tup, truD_lst, truD_lsk, ev_tup, ev_lst, ev_nwF, ev_nwM, ev_meth, ev_make, ev_fld, ev_setF, ev_bm1, asQ_tup, asQ_lst, asQ_lsk, asL_lst, asL_lsk, dLen_tup, dLen_lst, dLen_lsk, dLen_str, dIx_tup, dIx_lst, dIx_lsk, dIx_str, dAdd_int, dNeg_int, isN_def, notN_def, isNon_non, isNon_int, isNon_bl, isNon_str, isNon_tup, isNon_lst, isNon_obj, isNon_exc, dEq_int, dNe_int, dEq_str, dNe_str, dEq_bl, atI_zero, atI_one, atI_2, atI_3, atI_4, atI_5, atI_6, atI_7, atI_8, atI_9, atI_10, atI_11, atI_12, atI_m1, ev_gT, setAll_nil, setAll_cons, iOp_int, ev_gN, ev_ret, List.map_cons, List.map_nil, List.length_cons, List.length_nil, rep_zero, rep_succ, List.cons_append, List.nil_append, List.getElem?_cons_zero, List.getElem?_cons_succ, List.set_cons_zero, List.set_cons_succ, Nat.sub_self, Nat.reduceAdd, Nat.reduceSub, Option.map_some, Option.bind_some, if_true, Bool.not_true, Bool.not_false, Bool.false_eq_true, if_false, decide_true, decide_false, Int.reduceBEq, Int.reduceEq, Int.reduceLT, Int.reduceLE, Int.reduceNeg, Int.reduceAdd, Int.reduceSub, Int.reduceMul, Int.reduceToNat, Nat.reduceLT, Nat.reduceLeDiff, beq_self_eq_true, reduceIte, eq_self, Int.reduceNe, Int.reduceBNe, not_true_eq_false, not_false_eq_true, true_and, and_true, true_or, or_true, false_or, or_false, and_false, false_and, decide_eq_true_eq, Bool.true_and, Bool.and_true, Bool.false_and, Bool.and_false, Bool.true_or, Bool.or_true, Bool.false_or, Bool.or_false, eqGotG, e1, e2])
  unfold m_Giver_took b_Giver_took u_Giver_took_1 u_Giver_took_2
  rw [show fnOf 5 = fnOf 5 from rfl]
  cases b
  · simp only [Bool.false_eq_true, if_false] at f3 ⊢
    simp only [fnOf, ev_seq] at f3 ⊢
    simp only [fnOf, ev_seq, ev_asg, sBnd_def, ev_op, ev_un, bnd_def, ev_call, evs_cons, evs_nil, ev_var, ev_c, ev_if, ev_next, ev_expr, ev_tru, ev_bl, ev_and, ev_or, ev_not, ev_yes, ev_andE, ev_orE, ev_notE, ev_ifE, ev_chain, ofB_some, ofO_some, ofO_none, truD_non, truD_bl, truD_int, truD_str, truD_tup, truD_lst, truD_lsk, ev_tup, ev_lst, ev_nwF, ev_nwM, ev_meth, ev_make, ev_fld, ev_setF, ev_bm1, asQ_tup, asQ_lst, asQ_lsk, asL_lst, asL_lsk, dLen_tup, dLen_lst, dLen_lsk, dLen_str, dIx_tup, dIx_lst, dIx_lsk, dIx_str, dAdd_int, dNeg_int, isN_def, notN_def, isNon_non, isNon_int, isNon_bl, isNon_str, isNon_tup, isNon_lst, isNon_obj, isNon_exc, dEq_int, dNe_int, dEq_str, dNe_str, dEq_bl, atI_zero, atI_one, atI_2, atI_3, atI_4, atI_5, atI_6, atI_7, atI_8, atI_9, atI_10, atI_11, atI_12, atI_m1, ev_gT, setAll_nil, setAll_cons, iOp_int, ev_gN, ev_ret, List.map_cons, List.map_nil, List.length_cons, List.length_nil, rep_zero, rep_succ, List.cons_append, List.nil_append, List.getElem?_cons_zero, List.getElem?_cons_succ, List.set_cons_zero, List.set_cons_succ, Nat.sub_self, Nat.reduceAdd, Nat.reduceSub, Option.map_some, Option.bind_some, if_true, Bool.not_true, Bool.not_false, Bool.false_eq_true, if_false, decide_true, decide_false, Int.reduceBEq, Int.reduceEq, Int.reduceLT, Int.reduceLE, Int.reduceNeg, Int.reduceAdd, Int.reduceSub, Int.reduceMul, Int.reduceToNat, Nat.reduceLT, Nat.reduceLeDiff, beq_self_eq_true, reduceIte, eq_self, Int.reduceNe, Int.reduceBNe, not_true_eq_false, not_false_eq_true, true_and, and_true, true_or, or_true, false_or, or_false, and_false, false_and, decide_eq_true_eq, Bool.true_and, Bool.and_true, Bool.false_and, Bool.and_false, Bool.true_or, Bool.or_true, Bool.false_or, Bool.or_false, eqDoneH]
    rw [f3]
  · simp only [if_true] at f3 ⊢
    simp only [fnOf, ev_seq] at f3 ⊢
    simp only [fnOf, ev_seq, ev_asg, sBnd_def, ev_op, ev_un, bnd_def, ev_call, evs_cons, evs_nil, ev_var, ev_c, ev_if, ev_next, ev_expr, ev_tru, ev_bl, ev_and, ev_or, ev_not, ev_yes, ev_andE, ev_orE, ev_notE, ev_ifE, ev_chain, ofB_some, ofO_some, ofO_none, truD_non, truD_bl, truD_int, truD_str, truD_tup, truD_lst, truD_lsk, ev_tup, ev_lst, ev_nwF, ev_nwM, ev_meth, ev_make, ev_fld, ev_setF, ev_bm1, asQ_tup, asQ_lst, asQ_lsk, asL_lst, asL_lsk, dLen_tup, dLen_lst, dLen_lsk, dLen_str, dIx_tup, dIx_lst, dIx_lsk, dIx_str, dAdd_int, dNeg_int, isN_def, notN_def, isNon_non, isNon_int, isNon_bl, isNon_str, isNon_tup, isNon_lst, isNon_obj, isNon_exc, dEq_int, dNe_int, dEq_str, dNe_str, dEq_bl, atI_zero, atI_one, atI_2, atI_3, atI_4, atI_5, atI_6, atI_7, atI_8, atI_9, atI_10, atI_11, atI_12, atI_m1, ev_gT, setAll_nil, setAll_cons, iOp_int, ev_gN, ev_ret, List.map_cons, List.map_nil, List.length_cons, List.length_nil, rep_zero, rep_succ, List.cons_append, List.nil_append, List.getElem?_cons_zero, List.getElem?_cons_succ, List.set_cons_zero, List.set_cons_succ, Nat.sub_self, Nat.reduceAdd, Nat.reduceSub, Option.map_some, Option.bind_some, if_true, Bool.not_true, Bool.not_false, Bool.false_eq_true, if_false, decide_true, decide_false, Int.reduceBEq, Int.reduceEq, Int.reduceLT, Int.reduceLE, Int.reduceNeg, Int.reduceAdd, Int.reduceSub, Int.reduceMul, Int.reduceToNat, Nat.reduceLT, Nat.reduceLeDiff, beq_self_eq_true, reduceIte, eq_self, Int.reduceNe, Int.reduceBNe, not_true_eq_false, not_false_eq_true, true_and, and_true, true_or, or_true, false_or, or_false, and_false, false_and, decide_eq_true_eq, Bool.true_and, Bool.and_true, Bool.false_and, Bool.and_false, Bool.true_or, Bool.or_true, Bool.false_or, Bool.or_false, eqGotH]
    rw [f3]
/-! ### a new line -/
theorem pumpG_len {win most : Int} : ∀ (ws : List Td) (last : Int) (fl : List Fy), (pumpG win most ws last fl).2.length ≤ ws.length
  | [], last, fl => Nat.le_refl _
  | t :: r, last, fl => by
    unfold pumpG
    split
    · have := pumpG_len (win := win) (most := most) r (Gv.num ⟨win, most, last, t :: r, fl⟩) (fl ++ [⟨Gv.num ⟨win, most, last, t :: r, fl⟩, t.g, some t⟩])
      simp only [List.length_cons]
      omega
    · simp
theorem pump_len (g : Gv) : g.pump.2.length ≤ g.waits.length := pumpG_len _ _ _
def onceD (f : Fy) : Dt := match f.t with
  | none => freeD f.n
  | some t => sayD t true f.n
def Gv.again (g : Gv) : Gv × List Dt := (g.pump.1, g.flies.map onceD ++ g.pump.2)
theorem again_turn {i p : Nat} {R : List SP} {s : Sto} {acc : List Dt} {x : Fy} (ha : acc.length < 100000) (o : Own (At p (.lst acc) :: R) s) :
    ∃ s', l_Giver_again_1 [some (.obj i), some (.obj p), some (.int x.n), some (.int x.g), some (optD x.t)] s = .fl (.nx [some (.obj i), some (.obj p), some (.int x.n), some (.int x.g), some (optD x.t)]) s' ∧ Own (At p (.lst (acc ++ [onceD x])) :: R) s' := by
  have h1 := o.get
  have e1 := isLst_obj h1
  refine ⟨_, ?_, o.set _⟩
  unfold l_Giver_again_1 onceD
  cases ht : x.t with
  | none =>
    have e2 := dApp_at (y := freeD x.n) h1 (by omega)
    unfold freeD at e2
    simp only [fnOf, ev_seq, ev_asg, sBnd_def, ev_op, ev_un, bnd_def, ev_call, evs_cons, evs_nil, ev_var, ev_c, ev_if, ev_next, ev_expr, ev_tru, ev_bl, ev_and, ev_or, ev_not, ev_yes, ev_andE, ev_orE, ev_notE, ev_ifE, ev_chain, ofB_some, ofO_some, ofO_none, truD_non, truD_bl, truD_int, truD_str, truD_tup, truD_lst, truD_lsk, ev_tup, ev_lst, ev_nwF, ev_nwM, ev_meth, ev_make, ev_fld, ev_setF, ev_bm1, asQ_tup, asQ_lst, asQ_lsk, asL_lst, asL_lsk, dLen_tup, dLen_lst, dLen_lsk, dLen_str, dIx_tup, dIx_lst, dIx_lsk, dIx_str, dAdd_int, dNeg_int, isN_def, notN_def, isNon_non, isNon_int, isNon_bl, isNon_str, isNon_tup, isNon_lst, isNon_obj, isNon_exc, dEq_int, dNe_int, dEq_str, dNe_str, dEq_bl, atI_zero, atI_one, atI_2, atI_3, atI_4, atI_5, atI_6, atI_7, atI_8, atI_9, atI_10, atI_11, atI_12, atI_m1, ev_gT, setAll_nil, setAll_cons, iOp_int, ev_gN, ev_ret, List.map_cons, List.map_nil, List.length_cons, List.length_nil, rep_zero, rep_succ, List.cons_append, List.nil_append, List.getElem?_cons_zero, List.getElem?_cons_succ, List.set_cons_zero, List.set_cons_succ, Nat.sub_self, Nat.reduceAdd, Nat.reduceSub, Option.map_some, Option.bind_some, if_true, Bool.not_true, Bool.not_false, Bool.false_eq_true, if_false, decide_true, decide_false, Int.reduceBEq, Int.reduceEq, Int.reduceLT, Int.reduceLE, Int.reduceNeg, Int.reduceAdd, Int.reduceSub, Int.reduceMul, Int.reduceToNat, Nat.reduceLT, Nat.reduceLeDiff, beq_self_eq_true, reduceIte, eq_self, Int.reduceNe, Int.reduceBNe, not_true_eq_false, not_false_eq_true, true_and, and_true, true_or, or_true, false_or, or_false, and_false, false_and, decide_eq_true_eq, Bool.true_and, Bool.and_true, Bool.false_and, Bool.and_false, Bool.true_or, Bool.or_true, Bool.false_or, Bool.or_false, optD, e1, e2]
    rfl
  | some t =>
    have e2 := dApp_at (y := sayD t true x.n) h1 (by omega)
    have e3 : dAdd nwF (.tup [.str (Str.ofString "say")]) (.tup [t.nm, t.bd, .int t.g, t.kp]) s = .ok (.tup [.str (Str.ofString "say"), t.nm, t.bd, .int t.g, t.kp]) s := dAdd_tup (by simp)
    have e4 : dAdd nwF (.tup [.str (Str.ofString "say"), t.nm, t.bd, .int t.g, t.kp]) (.tup [.bl true, .int x.n]) s = .ok (sayD t true x.n) s := dAdd_tup (by simp)
    simp only [fnOf, ev_seq, ev_asg, sBnd_def, ev_op, ev_un, bnd_def, ev_call, evs_cons, evs_nil, ev_var, ev_c, ev_if, ev_next, ev_expr, ev_tru, ev_bl, ev_and, ev_or, ev_not, ev_yes, ev_andE, ev_orE, ev_notE, ev_ifE, ev_chain, ofB_some, ofO_some, ofO_none, truD_non, truD_bl, truD_int, truD_str, truD_tup, truD_lst, truD_lsk, ev_tup, ev_lst, ev_nwF, ev_nwM, ev_meth, ev_make, ev_fld, ev_setF, ev_bm1, asQ_tup, asQ_lst, asQ_lsk, asL_lst, asL_lsk, dLen_tup, dLen_lst, dLen_lsk, dLen_str, dIx_tup, dIx_lst, dIx_lsk, dIx_str, dAdd_int, dNeg_int, isN_def, notN_def, isNon_non, isNon_int, isNon_bl, isNon_str, isNon_tup, isNon_lst, isNon_obj, isNon_exc, dEq_int, dNe_int, dEq_str, dNe_str, dEq_bl, atI_zero, atI_one, atI_2, atI_3, atI_4, atI_5, atI_6, atI_7, atI_8, atI_9, atI_10, atI_11, atI_12, atI_m1, ev_gT, setAll_nil, setAll_cons, iOp_int, ev_gN, ev_ret, List.map_cons, List.map_nil, List.length_cons, List.length_nil, rep_zero, rep_succ, List.cons_append, List.nil_append, List.getElem?_cons_zero, List.getElem?_cons_succ, List.set_cons_zero, List.set_cons_succ, Nat.sub_self, Nat.reduceAdd, Nat.reduceSub, Option.map_some, Option.bind_some, if_true, Bool.not_true, Bool.not_false, Bool.false_eq_true, if_false, decide_true, decide_false, Int.reduceBEq, Int.reduceEq, Int.reduceLT, Int.reduceLE, Int.reduceNeg, Int.reduceAdd, Int.reduceSub, Int.reduceMul, Int.reduceToNat, Nat.reduceLT, Nat.reduceLeDiff, beq_self_eq_true, reduceIte, eq_self, Int.reduceNe, Int.reduceBNe, not_true_eq_false, not_false_eq_true, true_and, and_true, true_or, or_true, false_or, or_false, and_false, false_and, decide_eq_true_eq, Bool.true_and, Bool.and_true, Bool.false_and, Bool.and_false, Bool.true_or, Bool.or_true, Bool.false_or, Bool.or_false, optD, Td.d, e1, e2, e3, e4]
theorem ev_again {i : Nat} {g : Gv} {R : List SP} {s : Sto} (k : g.Ok) (o : Own (GvA i g :: R) s) : ∃ p s', m_Giver_again [.obj i] s = .ok (.obj p) s' ∧ g.again.1.Ok ∧ Own (At p (.lst g.again.2) :: GvA i g.again.1 :: R) s' := by
  have hz : g.flies.length ≤ 65535 := by have := k.few; have := k.most; have := k.top; omega
  obtain ⟨w, f, o1⟩ := own_gv.mp o
  have o2 := o1.new (.lst [])
  have h2 := (own4 o2).get
  have e1 := insD_obj (own2 o2).get
  have e2 := asQ_obj h2
  obtain ⟨e, s1, hl, y2, y3, y4, he, o3⟩ := for_map (tg := gT [2, 3, 4]) (body := l_Giver_again_1) (ok := fun s' => asQ s' (.obj f) = some (g.flies.map Fy.d)) (f := Fy.d)
    (fun pre env s' => ∃ y2 y3 y4, env = [some (.obj i), some (.obj s.length), y2, y3, y4] ∧ Own (At s.length (.lst (pre.map onceD)) :: At i (insG g w f) :: At w (.lst (g.waits.map Td.d)) :: At f (.lst (g.flies.map Fy.d)) :: R) s')
    g.flies [some (.obj i), some (.obj s.length), none, none, none] (s ++ [Mo.lst []]) ⟨none, none, none, rfl, o2⟩
    (fun pre x post env s' ha ⟨y2, y3, y4, he, ho⟩ => by
      subst he
      obtain ⟨s2, h1, h2⟩ := again_turn (i := i) (x := x) (by
        have := congrArg List.length ha
        simp only [List.length_append, List.length_cons] at this
        rw [List.length_map]
        omega) ho
      exact ⟨_, rfl, _, s2, .inl h1, _, _, _, rfl, by rw [List.map_append]; exact h2⟩) (fun pre env s' ⟨y2, y3, y4, he, ho⟩ => asQ_obj (own4 ho).get)
  subst he
  obtain ⟨p, s2, h4, k4, o4⟩ := ev_pump (i := i) (g := g) (R := At s.length (.lst (g.flies.map onceD)) :: R) k (own_gv.mpr ⟨w, f, o3.ix [1, 2, 3, 0]⟩)
  have e3 := insD_obj (own2 o3).get
  have h5 := (own3 o4).get
  have z3 := dAdd_any (nw := nwM) (s := s2) (x := .obj s.length) (y := .obj p) (trkL_obj h5) (trkL_obj o4.get) (by
    rw [List.length_map]
    have := pump_len g
    have := k.wl
    omega)
  refine ⟨s2.length, s2 ++ [.lst g.again.2], ?_, k4, ?_⟩
  · have f1 : u_Giver_again_1 [some (.obj i), none, none, none, none] s = .fl (.nx [some (.obj i), some (.obj s.length), none, none, none]) (s ++ [.lst []]) := by
      unfold u_Giver_again_1
      simp only [fnOf, ev_seq, ev_asg, sBnd_def, ev_op, ev_un, bnd_def, ev_call, evs_cons, evs_nil, ev_var, ev_c, ev_if, ev_next, ev_expr, ev_tru, ev_bl, ev_and, ev_or, ev_not, ev_yes, ev_andE, ev_orE, ev_notE, ev_ifE, ev_chain, ofB_some, ofO_some, ofO_none, truD_non, truD_bl, truD_int, truD_str, truD_tup, truD_lst, truD_lsk, ev_tup, ev_lst, ev_nwF, ev_nwM, ev_meth, ev_make, ev_fld, ev_setF, ev_bm1, asQ_tup, asQ_lst, asQ_lsk, asL_lst, asL_lsk, dLen_tup, dLen_lst, dLen_lsk, dLen_str, dIx_tup, dIx_lst, dIx_lsk, dIx_str, dAdd_int, dNeg_int, isN_def, notN_def, isNon_non, isNon_int, isNon_bl, isNon_str, isNon_tup, isNon_lst, isNon_obj, isNon_exc, dEq_int, dNe_int, dEq_str, dNe_str, dEq_bl, atI_zero, atI_one, atI_2, atI_3, atI_4, atI_5, atI_6, atI_7, atI_8, atI_9, atI_10, atI_11, atI_12, atI_m1, ev_gT, setAll_nil, setAll_cons, iOp_int, ev_gN, ev_ret, List.map_cons, List.map_nil, List.length_cons, List.length_nil, rep_zero, rep_succ, List.cons_append, List.nil_append, List.getElem?_cons_zero, List.getElem?_cons_succ, List.set_cons_zero, List.set_cons_succ, Nat.sub_self, Nat.reduceAdd, Nat.reduceSub, Option.map_some, Option.bind_some, if_true, Bool.not_true, Bool.not_false, Bool.false_eq_true, if_false, decide_true, decide_false, Int.reduceBEq, Int.reduceEq, Int.reduceLT, Int.reduceLE, Int.reduceNeg, Int.reduceAdd, Int.reduceSub, Int.reduceMul, Int.reduceToNat, Nat.reduceLT, Nat.reduceLeDiff, beq_self_eq_true, reduceIte, eq_self, Int.reduceNe, Int.reduceBNe, not_true_eq_false, not_false_eq_true, true_and, and_true, true_or, or_true, false_or, or_false, and_false, false_and, decide_eq_true_eq, Bool.true_and, Bool.and_true, Bool.false_and, Bool.and_false, Bool.true_or, Bool.or_true, Bool.false_or, Bool.or_false]
    have f2 : u_Giver_again_2 [some (.obj i), some (.obj s.length), none, none, none] (s ++ [.lst []]) = .fl (.nx [some (.obj i), some (.obj s.length), y2, y3, y4]) s1 := by
      unfold u_Giver_again_2
      simp only [fnOf, ev_seq, ev_asg, sBnd_def, ev_op, ev_un, bnd_def, ev_call, evs_cons, evs_nil, ev_var, ev_c, ev_if, ev_next, ev_expr, ev_tru, ev_bl, ev_and, ev_or, ev_not, ev_yes, ev_andE, ev_orE, ev_notE, ev_ifE, ev_chain, ofB_some, ofO_some, ofO_none, truD_non, truD_bl, truD_int, truD_str, truD_tup, truD_lst, truD_lsk, ev_tup, ev_lst, ev_nwF, ev_nwM, ev_meth, ev_make, ev_fld, ev_setF, ev_bm1, asQ_tup, asQ_lst, asQ_lsk, asL_lst, asL_lsk, dLen_tup, dLen_lst, dLen_lsk, dLen_str, dIx_tup, dIx_lst, dIx_lsk, dIx_str, dAdd_int, dNeg_int, isN_def, notN_def, isNon_non, isNon_int, isNon_bl, isNon_str, isNon_tup, isNon_lst, isNon_obj, isNon_exc, dEq_int, dNe_int, dEq_str, dNe_str, dEq_bl, atI_zero, atI_one, atI_2, atI_3, atI_4, atI_5, atI_6, atI_7, atI_8, atI_9, atI_10, atI_11, atI_12, atI_m1, ev_gT, setAll_nil, setAll_cons, iOp_int, ev_gN, ev_ret, List.map_cons, List.map_nil, List.length_cons, List.length_nil, rep_zero, rep_succ, List.cons_append, List.nil_append, List.getElem?_cons_zero, List.getElem?_cons_succ, List.set_cons_zero, List.set_cons_succ, Nat.sub_self, Nat.reduceAdd, Nat.reduceSub, Option.map_some, Option.bind_some, if_true, Bool.not_true, Bool.not_false, Bool.false_eq_true, if_false, decide_true, decide_false, Int.reduceBEq, Int.reduceEq, Int.reduceLT, Int.reduceLE, Int.reduceNeg, Int.reduceAdd, Int.reduceSub, Int.reduceMul, Int.reduceToNat, Nat.reduceLT, Nat.reduceLeDiff, beq_self_eq_true, reduceIte, eq_self, Int.reduceNe, Int.reduceBNe, not_true_eq_false, not_false_eq_true, true_and, and_true, true_or, or_true, false_or, or_false, and_false, false_and, decide_eq_true_eq, Bool.true_and, Bool.and_true, Bool.false_and, Bool.and_false, Bool.true_or, Bool.or_true, Bool.false_or, Bool.or_false, ev_for, ev_iSeq, e1, e2]
      exact hl
    have f3 : u_Giver_again_3 [some (.obj i), some (.obj s.length), y2, y3, y4] s1 = .fl (.rt (.obj s2.length)) (s2 ++ [.lst g.again.2]) := by
      unfold u_Giver_again_3 Gv.again
      simp only [fnOf, ev_seq, ev_asg, sBnd_def, ev_op, ev_un, bnd_def, ev_call, evs_cons, evs_nil, ev_var, ev_c, ev_if, ev_next, ev_expr, ev_tru, ev_bl, ev_and, ev_or, ev_not, ev_yes, ev_andE, ev_orE, ev_notE, ev_ifE, ev_chain, ofB_some, ofO_some, ofO_none, truD_non, truD_bl, truD_int, truD_str, truD_tup, truD_lst, truD_lsk, ev_tup, ev_lst, ev_nwF, ev_nwM, ev_meth, ev_make, ev_fld, ev_setF, ev_bm1, asQ_tup, asQ_lst, asQ_lsk, asL_lst, asL_lsk, dLen_tup, dLen_lst, dLen_lsk, dLen_str, dIx_tup, dIx_lst, dIx_lsk, dIx_str, dAdd_int, dNeg_int, isN_def, notN_def, isNon_non, isNon_int, isNon_bl, isNon_str, isNon_tup, isNon_lst, isNon_obj, isNon_exc, dEq_int, dNe_int, dEq_str, dNe_str, dEq_bl, atI_zero, atI_one, atI_2, atI_3, atI_4, atI_5, atI_6, atI_7, atI_8, atI_9, atI_10, atI_11, atI_12, atI_m1, ev_gT, setAll_nil, setAll_cons, iOp_int, ev_gN, ev_ret, List.map_cons, List.map_nil, List.length_cons, List.length_nil, rep_zero, rep_succ, List.cons_append, List.nil_append, List.getElem?_cons_zero, List.getElem?_cons_succ, List.set_cons_zero, List.set_cons_succ, Nat.sub_self, Nat.reduceAdd, Nat.reduceSub, Option.map_some, Option.bind_some, if_true, Bool.not_true, Bool.not_false, Bool.false_eq_true, if_false, decide_true, decide_false, Int.reduceBEq, Int.reduceEq, Int.reduceLT, Int.reduceLE, Int.reduceNeg, Int.reduceAdd, Int.reduceSub, Int.reduceMul, Int.reduceToNat, Nat.reduceLT, Nat.reduceLeDiff, beq_self_eq_true, reduceIte, eq_self, Int.reduceNe, Int.reduceBNe, not_true_eq_false, not_false_eq_true, true_and, and_true, true_or, or_true, false_or, or_false, and_false, false_and, decide_eq_true_eq, Bool.true_and, Bool.and_true, Bool.false_and, Bool.and_false, Bool.true_or, Bool.or_true, Bool.false_or, Bool.or_false, e3, h4, z3]
    unfold m_Giver_again b_Giver_again
    simp only [fnOf, ev_seq, ev_asg, sBnd_def, ev_op, ev_un, bnd_def, ev_call, evs_cons, evs_nil, ev_var, ev_c, ev_if, ev_next, ev_expr, ev_tru, ev_bl, ev_and, ev_or, ev_not, ev_yes, ev_andE, ev_orE, ev_notE, ev_ifE, ev_chain, ofB_some, ofO_some, ofO_none, truD_non, truD_bl, truD_int, truD_str, truD_tup, truD_lst, truD_lsk, ev_tup, ev_lst, ev_nwF, ev_nwM, ev_meth, ev_make, ev_fld, ev_setF, ev_bm1, asQ_tup, asQ_lst, asQ_lsk, asL_lst, asL_lsk, dLen_tup, dLen_lst, dLen_lsk, dLen_str, dIx_tup, dIx_lst, dIx_lsk, dIx_str, dAdd_int, dNeg_int, isN_def, notN_def, isNon_non, isNon_int, isNon_bl, isNon_str, isNon_tup, isNon_lst, isNon_obj, isNon_exc, dEq_int, dNe_int, dEq_str, dNe_str, dEq_bl, atI_zero, atI_one, atI_2, atI_3, atI_4, atI_5, atI_6, atI_7, atI_8, atI_9, atI_10, atI_11, atI_12, atI_m1, ev_gT, setAll_nil, setAll_cons, iOp_int, ev_gN, ev_ret, List.map_cons, List.map_nil, List.length_cons, List.length_nil, rep_zero, rep_succ, List.cons_append, List.nil_append, List.getElem?_cons_zero, List.getElem?_cons_succ, List.set_cons_zero, List.set_cons_succ, Nat.sub_self, Nat.reduceAdd, Nat.reduceSub, Option.map_some, Option.bind_some, if_true, Bool.not_true, Bool.not_false, Bool.false_eq_true, if_false, decide_true, decide_false, Int.reduceBEq, Int.reduceEq, Int.reduceLT, Int.reduceLE, Int.reduceNeg, Int.reduceAdd, Int.reduceSub, Int.reduceMul, Int.reduceToNat, Nat.reduceLT, Nat.reduceLeDiff, beq_self_eq_true, reduceIte, eq_self, Int.reduceNe, Int.reduceBNe, not_true_eq_false, not_false_eq_true, true_and, and_true, true_or, or_true, false_or, or_false, and_false, false_and, decide_eq_true_eq, Bool.true_and, Bool.and_true, Bool.false_and, Bool.and_false, Bool.true_or, Bool.or_true, Bool.false_or, Bool.or_false, f1, f2, f3]
  · exact (((own3 o4).drop.drop).new (.lst g.again.2))
/-! ### what holds of givers -/
structure Gv.Inv (g : Gv) : Prop where
  nd : g.used.Nodup
  fg : ∀ f ∈ g.flies, (f.g = 3 ∧ f.t = none) ∨ (∃ t, f.t = some t ∧ t.g = f.g ∧ (f.g = 1 ∨ f.g = 2))
  wg : ∀ t ∈ g.waits, t.g = 1 ∨ t.g = 2
theorem Gv.Inv.go {g : Gv} {t : Td} {r : List Td} (i : g.Inv) (k : g.Ok) (hw : g.waits = t :: r) (h : (g.flies.length : Int) < g.win) : (g.go t r).Inv where
  nd := by
    have hn := (Gv.num_is k h).2.2.2
    simp only [Gv.used, Gv.go, List.map_append, List.map_cons, List.map_nil]
    refine List.nodup_append.mpr ⟨i.nd, by simp, fun a ha b hb => ?_⟩
    rw [List.mem_singleton] at hb
    rw [hb]
    intro e
    exact hn (by rw [← e]; exact ha)
  fg := fun f hf => by
    simp only [Gv.go, List.mem_append, List.mem_singleton] at hf
    rcases hf with hf | hf
    · exact i.fg f hf
    · rw [hf]
      exact .inr ⟨t, rfl, rfl, i.wg t (by rw [hw]; exact List.mem_cons_self)⟩
  wg := fun u hu => i.wg u (by rw [hw]; exact List.mem_cons_of_mem _ hu)
theorem Gv.pump_inv : ∀ (ws : List Td) (g : Gv), g.waits = ws → g.Ok → g.Inv → g.pump.1.Inv ∧ g.pump.1.Ok ∧ g.pump.1.win = g.win ∧ g.pump.1.most = g.most ∧ g.pump.1.waits.length ≤ g.waits.length
  | [], g, hw, k, i => by rw [Gv.pump_nil hw]; exact ⟨i, k, rfl, rfl, Nat.le_refl _⟩
  | t :: r, g, hw, k, i => by
    by_cases h : (g.flies.length : Int) < g.win
    · rw [Gv.pump_cons hw h]
      have := Gv.pump_inv r (g.go t r) rfl (Gv.go_ok k hw h) (i.go k hw h)
      refine ⟨this.1, this.2.1, this.2.2.1, this.2.2.2.1, ?_⟩
      have h5 := this.2.2.2.2
      rw [hw, List.length_cons]
      have : (g.go t r).waits = r := rfl
      rw [this] at h5
      show (g.go t r).pump.1.waits.length ≤ r.length + 1
      omega
    · rw [Gv.pump_full h]; exact ⟨i, k, rfl, rfl, Nat.le_refl _⟩
theorem Gv.Inv.keep {g : Gv} {t : Td} (i : g.Inv) (ht : 0 ≤ t.g ∧ t.g ≤ 2) : (g.keep t).Inv := by
  unfold Gv.keep
  split
  · refine ⟨i.nd, i.fg, fun u hu => ?_⟩
    simp only [List.mem_append, List.mem_singleton] at hu
    rcases hu with hu | hu
    · exact i.wg u hu
    · rw [hu]; omega
  · exact i
theorem Gv.Inv.say {g : Gv} {t : Td} (i : g.Inv) (k : g.Ok) (ht : 0 ≤ t.g ∧ t.g ≤ 2) (hl : g.waits.length < 5000) : (g.say t).1.Inv ∧ (g.say t).1.Ok := by
  unfold Gv.say
  split
  · exact ⟨i, k⟩
  · have := Gv.pump_inv _ _ rfl (k.keep (t := t) hl) (i.keep ht)
    exact ⟨this.1, this.2.1⟩
/-! where a number stands -/
theorem range_head {p : Fy → Bool} : ∀ l : List Fy, ((List.range l.length).filter (fun k => match l[k]? with | some f => p f | none => false)).head? = l.findIdx? p
  | [] => rfl
  | x :: l => by
    have ih := range_head (p := p) l
    rw [List.length_cons, List.range_succ_eq_map, List.filter_cons, List.findIdx?_cons]
    simp only [List.getElem?_cons_zero]
    by_cases hx : p x = true
    · rw [if_pos hx, if_pos hx]; rfl
    · rw [if_neg hx, if_neg hx, List.filter_map, List.head?_map]
      have : ((fun k => match (x :: l)[k]? with | some f => p f | none => false) ∘ Nat.succ) = (fun k => match l[k]? with | some f => p f | none => false) := by
        funext k
        simp [Function.comp]
      rw [this, ih]
theorem place_find (g : Gv) (n gr : Int) : g.place n gr = g.flies.findIdx? (fun f => f.n == n && f.g == gr) := by
  rw [← range_head]
  rfl
theorem place_none {g : Gv} {n gr : Int} (h : ∀ f ∈ g.flies, f.n ≠ n) : g.place n gr = none := by
  rw [place_find, List.findIdx?_eq_none_iff]
  intro f hf
  have := h f hf
  simp [this]
theorem place_split {g : Gv} {n gr : Int} {A B : List Fy} {x : Fy} (e : g.flies = A ++ x :: B) (hA : ∀ f ∈ A, f.n ≠ n) (hB : ∀ f ∈ B, f.n ≠ n) (hx : x.n = n) : g.place n gr = if x.g = gr then some A.length else none := by
  rw [place_find, e, List.findIdx?_append]
  have h1 : A.findIdx? (fun f => f.n == n && f.g == gr) = none := by
    rw [List.findIdx?_eq_none_iff]
    intro f hf
    simp [hA f hf]
  have h2 : B.findIdx? (fun f => f.n == n && f.g == gr) = none := by
    rw [List.findIdx?_eq_none_iff]
    intro f hf
    simp [hB f hf]
  rw [h1, List.findIdx?_cons, h2]
  by_cases hg : x.g = gr
  · simp [hx, hg]
  · simp [hx, hg]
theorem nd_split {l : List Fy} {n : Int} (nd : (l.map (·.n)).Nodup) (h : n ∈ l.map (·.n)) : ∃ A x B, l = A ++ x :: B ∧ x.n = n ∧ (∀ f ∈ A, f.n ≠ n) ∧ ∀ f ∈ B, f.n ≠ n := by
  obtain ⟨x, hx, e⟩ := List.mem_map.mp h
  obtain ⟨A, B, e2⟩ := List.append_of_mem hx
  refine ⟨A, x, B, e2, e, fun f hf z => ?_, fun f hf z => ?_⟩
  · rw [e2, List.map_append, List.map_cons] at nd
    exact (List.nodup_append.mp nd).2.2 f.n (List.mem_map.mpr ⟨f, hf, rfl⟩) x.n List.mem_cons_self (by rw [z, e])
  · rw [e2, List.map_append, List.map_cons] at nd
    have := (List.nodup_append.mp nd).2.1
    rw [List.nodup_cons] at this
    exact this.1 (List.mem_map.mpr ⟨f, hf, by rw [z, e]⟩)
theorem set_mid {α : Type} (A : List α) (x y : α) (B : List α) : (A ++ x :: B).set A.length y = A ++ y :: B := by
  rw [List.set_append_right _ _ (Nat.le_refl _), Nat.sub_self]
  rfl
theorem cut_mid {α : Type} (A : List α) (x : α) (B : List α) : (A ++ x :: B).take A.length ++ (A ++ x :: B).drop (A.length + 1) = A ++ B := by
  rw [List.take_left', List.drop_append]
  · simp
  · rfl
/-- how a giver stands behind an answer, told by where the number is -/
theorem held_split {g : Gv} {n : Int} {A B : List Fy} {x : Fy} (e : g.flies = A ++ x :: B) (hA : ∀ f ∈ A, f.n ≠ n) (hB : ∀ f ∈ B, f.n ≠ n) (hx : x.n = n) :
    g.held n = if x.g = 2 then ({ g with flies := A ++ ⟨n, 3, none⟩ :: B }, [freeD n]) else if x.g = 3 then (g, [freeD n]) else (g, []) := by
  unfold Gv.held
  rw [place_split e hA hB hx, place_split e hA hB hx]
  by_cases h2 : x.g = 2
  · rw [if_pos h2, if_pos h2]
    simp only [e, set_mid]
  · rw [if_neg h2, if_neg h2]
    by_cases h3 : x.g = 3
    · rw [if_pos h3, if_pos h3]; rfl
    · rw [if_neg h3, if_neg h3]; rfl
theorem held_none {g : Gv} {n : Int} (h : ∀ f ∈ g.flies, f.n ≠ n) : g.held n = (g, []) := by
  unfold Gv.held
  rw [place_none h, place_none h]
  rfl
theorem gone_split {g : Gv} {n gr : Int} {A B : List Fy} {x : Fy} (e : g.flies = A ++ x :: B) (hA : ∀ f ∈ A, f.n ≠ n) (hB : ∀ f ∈ B, f.n ≠ n) (hx : x.n = n) :
    g.gone n gr = if x.g = gr then Gv.pump { g with flies := A ++ B } else (g, []) := by
  unfold Gv.gone
  rw [place_split e hA hB hx]
  by_cases h2 : x.g = gr
  · rw [if_pos h2, if_pos h2]
    simp only [e, cut_mid]
  · rw [if_neg h2, if_neg h2]
theorem gone_none {g : Gv} {n gr : Int} (h : ∀ f ∈ g.flies, f.n ≠ n) : g.gone n gr = (g, []) := by
  unfold Gv.gone
  rw [place_none h]
theorem Gv.Inv.held {g : Gv} (i : g.Inv) (k : g.Ok) (n : Int) : (g.held n).1.Inv ∧ (g.held n).1.Ok := by
  by_cases h : n ∈ g.used
  · obtain ⟨A, x, B, e, hx, hA, hB⟩ := nd_split i.nd h
    rw [held_split e hA hB hx]
    split
    · refine ⟨⟨?_, fun f hf => ?_, i.wg⟩, ⟨k.win, k.most, k.top, k.last, ?_, k.wl⟩⟩
      · have := i.nd
        simp only [Gv.used, e, List.map_append, List.map_cons] at this ⊢
        rw [hx] at this
        exact this
      · simp only [List.mem_append, List.mem_cons] at hf
        rcases hf with hf | hf | hf
        · exact i.fg f (by rw [e]; simp [hf])
        · rw [hf]; exact .inl ⟨rfl, rfl⟩
        · exact i.fg f (by rw [e]; simp [hf])
      · have := k.few
        rw [e] at this
        simpa using this
    · split
      · exact ⟨i, k⟩
      · exact ⟨i, k⟩
  · rw [held_none fun f hf z => h (List.mem_map.mpr ⟨f, hf, z⟩)]
    exact ⟨i, k⟩
theorem Gv.Inv.cut {g : Gv} {A B : List Fy} {x : Fy} (i : g.Inv) (e : g.flies = A ++ x :: B) : ({ g with flies := A ++ B } : Gv).Inv where
  nd := by
    have := i.nd
    simp only [Gv.used, e, List.map_append, List.map_cons] at this ⊢
    exact this.sublist (List.Sublist.append_left (List.sublist_cons_self _ _) _)
  fg := fun f hf => i.fg f (by rw [e]; simp only [List.mem_append, List.mem_cons] at hf ⊢; rcases hf with h | h <;> simp [h])
  wg := i.wg
theorem Gv.Ok.cutA {g : Gv} {A B : List Fy} {x : Fy} (k : g.Ok) (e : g.flies = A ++ x :: B) : ({ g with flies := A ++ B } : Gv).Ok :=
  ⟨k.win, k.most, k.top, k.last, by have := k.few; rw [e] at this; simp only [List.length_append, List.length_cons] at this ⊢; omega, k.wl⟩
theorem Gv.Inv.gone {g : Gv} (i : g.Inv) (k : g.Ok) (n gr : Int) : (g.gone n gr).1.Inv ∧ (g.gone n gr).1.Ok := by
  by_cases h : n ∈ g.used
  · obtain ⟨A, x, B, e, hx, hA, hB⟩ := nd_split i.nd h
    rw [gone_split e hA hB hx]
    split
    · have := Gv.pump_inv _ _ rfl (k.cutA e) (i.cut e)
      exact ⟨this.1, this.2.1⟩
    · exact ⟨i, k⟩
  · rw [gone_none fun f hf z => h (List.mem_map.mpr ⟨f, hf, z⟩)]
    exact ⟨i, k⟩
/-! ### what is sent is flat: it may be compared -/
def Td.Flat (t : Td) : Prop := dpt t.nm = some 0 ∧ dpt t.bd = some 0 ∧ dpt t.kp = some 0
theorem Td.Good.flat {t : Td} (h : t.Good) : t.Flat := by
  obtain ⟨n, b, k, e, _⟩ := h
  rw [e]
  exact ⟨rfl, rfl, rfl⟩
structure Gv.Flt (g : Gv) : Prop where
  w : ∀ t ∈ g.waits, t.Flat
  f : ∀ f ∈ g.flies, ∀ t, f.t = some t → t.Flat
theorem dpt_say {t : Td} (h : t.Flat) (b : Bool) (n : Int) : dpt (sayD t b n) = some 1 := by
  obtain ⟨h1, h2, h3⟩ := h
  simp [sayD, dpt, dpts, h1, h2, h3]
theorem dpt_free (n : Int) : dpt (freeD n) = some 1 := by simp [freeD, dpt, dpts]
theorem dpts_of : ∀ {l : List Dt}, (∀ d ∈ l, dpt d = some 1) → ∃ n, dpts l = some n ∧ n ≤ 1
  | [], _ => ⟨0, rfl, by omega⟩
  | d :: l, h => by
    obtain ⟨n, h1, h2⟩ := dpts_of (l := l) fun x hx => h x (List.mem_cons_of_mem _ hx)
    refine ⟨max 1 n, ?_, by omega⟩
    simp only [dpts, h d List.mem_cons_self, h1]
theorem pump_flt : ∀ (ws : List Td) (g : Gv), g.waits = ws → g.Flt → g.pump.1.Flt ∧ ∀ d ∈ g.pump.2, dpt d = some 1
  | [], g, hw, h => by rw [Gv.pump_nil hw]; exact ⟨h, fun d hd => nomatch hd⟩
  | t :: r, g, hw, h => by
    by_cases hf : (g.flies.length : Int) < g.win
    · rw [Gv.pump_cons hw hf]
      have ht : t.Flat := h.w t (by rw [hw]; exact List.mem_cons_self)
      have := pump_flt r (g.go t r) rfl ⟨fun u hu => h.w u (by rw [hw]; exact List.mem_cons_of_mem _ hu), fun f hf u hu => by
        simp only [Gv.go, List.mem_append, List.mem_singleton] at hf
        rcases hf with hf | hf
        · exact h.f f hf u hu
        · rw [hf] at hu
          have : t = u := Option.some.inj hu
          rw [← this]; exact ht⟩
      refine ⟨this.1, fun d hd => ?_⟩
      rcases List.mem_cons.mp hd with e | hd
      · rw [e]; exact dpt_say ht _ _
      · exact this.2 d hd
    · rw [Gv.pump_full hf]; exact ⟨h, fun d hd => nomatch hd⟩
theorem keep_flt {g : Gv} {t : Td} (h : g.Flt) (ht : t.Flat) : (g.keep t).Flt := by
  unfold Gv.keep
  split
  · refine ⟨fun u hu => ?_, h.f⟩
    simp only [List.mem_append, List.mem_singleton] at hu
    rcases hu with hu | hu
    · exact h.w u hu
    · rw [hu]; exact ht
  · exact h
theorem say_flt {g : Gv} {t : Td} (h : g.Flt) (ht : t.Flat) : (g.say t).1.Flt ∧ ∀ d ∈ (g.say t).2, dpt d = some 1 := by
  unfold Gv.say
  split
  · refine ⟨h, fun d hd => ?_⟩
    rw [List.mem_singleton] at hd
    rw [hd]
    exact dpt_say ht _ _
  · exact pump_flt _ _ rfl (keep_flt h ht)
theorem again_flt {g : Gv} (h : g.Flt) : g.again.1.Flt ∧ ∀ d ∈ g.again.2, dpt d = some 1 := by
  have := pump_flt _ g rfl h
  refine ⟨this.1, fun d hd => ?_⟩
  rcases List.mem_append.mp hd with hd | hd
  · obtain ⟨f, hf, e⟩ := List.mem_map.mp hd
    rw [← e]
    unfold onceD
    split
    · exact dpt_free _
    · rename_i t ht
      exact dpt_say (h.f f hf t ht) _ _
  · exact this.2 d hd
theorem held_flt {g : Gv} (h : g.Flt) (n : Int) : (g.held n).1.Flt ∧ ∀ d ∈ (g.held n).2, dpt d = some 1 := by
  unfold Gv.held
  split
  · refine ⟨⟨h.w, fun f hf t ht => ?_⟩, fun d hd => ?_⟩
    · rcases List.mem_or_eq_of_mem_set hf with hf | hf
      · exact h.f f hf t ht
      · rw [hf] at ht; cases ht
    · rw [List.mem_singleton] at hd
      rw [hd]
      exact dpt_free _
  · refine ⟨h, fun d hd => ?_⟩
    split at hd
    · rw [List.mem_singleton] at hd
      rw [hd]
      exact dpt_free _
    · cases hd
theorem gone_flt {g : Gv} (h : g.Flt) (n gr : Int) : (g.gone n gr).1.Flt ∧ ∀ d ∈ (g.gone n gr).2, dpt d = some 1 := by
  unfold Gv.gone
  split
  · refine pump_flt _ _ rfl ⟨h.w, fun f hf t ht => h.f f ?_ t ht⟩
    rcases List.mem_append.mp hf with hf | hf
    · exact List.mem_of_mem_take hf
    · exact List.mem_of_mem_drop hf
  · exact ⟨h, fun d hd => nomatch hd⟩
theorem Own.py {r : Dt} {l : List Dt} {R : List SP} {s : Sto} (o : Own (LsA r l :: R) s) : toPyS s r = (toPys l).map .list := by
  rcases own_ls.mp o with ⟨e, _⟩ | ⟨p, e, h⟩
  · rw [e]; rfl
  · rw [e]; simp only [toPyS, h.get]
theorem dEq_ls {r1 r2 : Dt} {l : List Dt} {R : List SP} {s : Sto} (o : Own (LsA r1 l :: LsA r2 l :: R) s) (h : ∀ d ∈ l, dpt d = some 1) : dEq r1 r2 s = .ok (.bl true) s := by
  obtain ⟨n, h1, h2⟩ := dpts_of h
  obtain ⟨q, e1, e2⟩ := dpts_py l n h1
  have a1 : toPyS s r1 = some (.list q) := by rw [Own.py o, e1]; rfl
  have a2 : toPyS s r2 = some (.list q) := by rw [Own.py (own2 o), e1]; rfl
  have e3 : (PyData.list q).depth ≤ 64 := by simp only [PyData.depth]; omega
  have e4 : noDict (.list q) = true := by
    simp only [noDict]
    exact toPys_noDict l q e1
  have e5 : dEqB s r1 r2 = some true := by simp only [dEqB, a1, a2, if_pos (And.intro e3 e3), eqv_self _ e4]
  simp only [dEq, e5, Option.map_some, ofO_some]
/-! ### a new giver -/
theorem ev_ends {w m : Int} {s : Sto} : m_look_ends [.int w, .int m] s = if (1 ≤ w ∧ w ≤ 20) ∧ (w ≤ m ∧ m ≤ 65535) then .ok .non s else .exc 5 s := by
  unfold m_look_ends b_look_ends
  by_cases h1 : 1 ≤ w
  · by_cases h2 : w ≤ 20
    · by_cases h3 : w ≤ m
      · by_cases h4 : m ≤ 65535
        · simp only [fnOf, ev_seq, ev_asg, sBnd_def, ev_op, ev_un, bnd_def, ev_call, evs_cons, evs_nil, ev_var, ev_c, ev_if, ev_next, ev_expr, ev_tru, ev_bl, ev_and, ev_or, ev_not, ev_yes, ev_andE, ev_orE, ev_notE, ev_ifE, ev_chain, ofB_some, ofO_some, ofO_none, truD_non, truD_bl, truD_int, truD_str, truD_tup, truD_lst, truD_lsk, ev_tup, ev_lst, ev_nwF, ev_nwM, ev_meth, ev_make, ev_fld, ev_setF, ev_bm1, asQ_tup, asQ_lst, asQ_lsk, asL_lst, asL_lsk, dLen_tup, dLen_lst, dLen_lsk, dLen_str, dIx_tup, dIx_lst, dIx_lsk, dIx_str, dAdd_int, dNeg_int, isN_def, notN_def, isNon_non, isNon_int, isNon_bl, isNon_str, isNon_tup, isNon_lst, isNon_obj, isNon_exc, dEq_int, dNe_int, dEq_str, dNe_str, dEq_bl, atI_zero, atI_one, atI_2, atI_3, atI_4, atI_5, atI_6, atI_7, atI_8, atI_9, atI_10, atI_11, atI_12, atI_m1, ev_gT, setAll_nil, setAll_cons, iOp_int, ev_gN, ev_ret, List.map_cons, List.map_nil, List.length_cons, List.length_nil, rep_zero, rep_succ, List.cons_append, List.nil_append, List.getElem?_cons_zero, List.getElem?_cons_succ, List.set_cons_zero, List.set_cons_succ, Nat.sub_self, Nat.reduceAdd, Nat.reduceSub, Option.map_some, Option.bind_some, if_true, Bool.not_true, Bool.not_false, Bool.false_eq_true, if_false, decide_true, decide_false, Int.reduceBEq, Int.reduceEq, Int.reduceLT, Int.reduceLE, Int.reduceNeg, Int.reduceAdd, Int.reduceSub, Int.reduceMul, Int.reduceToNat, Nat.reduceLT, Nat.reduceLeDiff, beq_self_eq_true, reduceIte, eq_self, Int.reduceNe, Int.reduceBNe, not_true_eq_false, not_false_eq_true, true_and, and_true, true_or, or_true, false_or, or_false, and_false, false_and, decide_eq_true_eq, Bool.true_and, Bool.and_true, Bool.false_and, Bool.and_false, Bool.true_or, Bool.or_true, Bool.false_or, Bool.or_false, h1, h2, h3, h4, ev_raise]
        · simp only [fnOf, ev_seq, ev_asg, sBnd_def, ev_op, ev_un, bnd_def, ev_call, evs_cons, evs_nil, ev_var, ev_c, ev_if, ev_next, ev_expr, ev_tru, ev_bl, ev_and, ev_or, ev_not, ev_yes, ev_andE, ev_orE, ev_notE, ev_ifE, ev_chain, ofB_some, ofO_some, ofO_none, truD_non, truD_bl, truD_int, truD_str, truD_tup, truD_lst, truD_lsk, ev_tup, ev_lst, ev_nwF, ev_nwM, ev_meth, ev_make, ev_fld, ev_setF, ev_bm1, asQ_tup, asQ_lst, asQ_lsk, asL_lst, asL_lsk, dLen_tup, dLen_lst, dLen_lsk, dLen_str, dIx_tup, dIx_lst, dIx_lsk, dIx_str, dAdd_int, dNeg_int, isN_def, notN_def, isNon_non, isNon_int, isNon_bl, isNon_str, isNon_tup, isNon_lst, isNon_obj, isNon_exc, dEq_int, dNe_int, dEq_str, dNe_str, dEq_bl, atI_zero, atI_one, atI_2, atI_3, atI_4, atI_5, atI_6, atI_7, atI_8, atI_9, atI_10, atI_11, atI_12, atI_m1, ev_gT, setAll_nil, setAll_cons, iOp_int, ev_gN, ev_ret, List.map_cons, List.map_nil, List.length_cons, List.length_nil, rep_zero, rep_succ, List.cons_append, List.nil_append, List.getElem?_cons_zero, List.getElem?_cons_succ, List.set_cons_zero, List.set_cons_succ, Nat.sub_self, Nat.reduceAdd, Nat.reduceSub, Option.map_some, Option.bind_some, if_true, Bool.not_true, Bool.not_false, Bool.false_eq_true, if_false, decide_true, decide_false, Int.reduceBEq, Int.reduceEq, Int.reduceLT, Int.reduceLE, Int.reduceNeg, Int.reduceAdd, Int.reduceSub, Int.reduceMul, Int.reduceToNat, Nat.reduceLT, Nat.reduceLeDiff, beq_self_eq_true, reduceIte, eq_self, Int.reduceNe, Int.reduceBNe, not_true_eq_false, not_false_eq_true, true_and, and_true, true_or, or_true, false_or, or_false, and_false, false_and, decide_eq_true_eq, Bool.true_and, Bool.and_true, Bool.false_and, Bool.and_false, Bool.true_or, Bool.or_true, Bool.false_or, Bool.or_false, h1, h2, h3, h4, ev_raise]
      · simp only [fnOf, ev_seq, ev_asg, sBnd_def, ev_op, ev_un, bnd_def, ev_call, evs_cons, evs_nil, ev_var, ev_c, ev_if, ev_next, ev_expr, ev_tru, ev_bl, ev_and, ev_or, ev_not, ev_yes, ev_andE, ev_orE, ev_notE, ev_ifE, ev_chain, ofB_some, ofO_some, ofO_none, truD_non, truD_bl, truD_int, truD_str, truD_tup, truD_lst, truD_lsk, ev_tup, ev_lst, ev_nwF, ev_nwM, ev_meth, ev_make, ev_fld, ev_setF, ev_bm1, asQ_tup, asQ_lst, asQ_lsk, asL_lst, asL_lsk, dLen_tup, dLen_lst, dLen_lsk, dLen_str, dIx_tup, dIx_lst, dIx_lsk, dIx_str, dAdd_int, dNeg_int, isN_def, notN_def, isNon_non, isNon_int, isNon_bl, isNon_str, isNon_tup, isNon_lst, isNon_obj, isNon_exc, dEq_int, dNe_int, dEq_str, dNe_str, dEq_bl, atI_zero, atI_one, atI_2, atI_3, atI_4, atI_5, atI_6, atI_7, atI_8, atI_9, atI_10, atI_11, atI_12, atI_m1, ev_gT, setAll_nil, setAll_cons, iOp_int, ev_gN, ev_ret, List.map_cons, List.map_nil, List.length_cons, List.length_nil, rep_zero, rep_succ, List.cons_append, List.nil_append, List.getElem?_cons_zero, List.getElem?_cons_succ, List.set_cons_zero, List.set_cons_succ, Nat.sub_self, Nat.reduceAdd, Nat.reduceSub, Option.map_some, Option.bind_some, if_true, Bool.not_true, Bool.not_false, Bool.false_eq_true, if_false, decide_true, decide_false, Int.reduceBEq, Int.reduceEq, Int.reduceLT, Int.reduceLE, Int.reduceNeg, Int.reduceAdd, Int.reduceSub, Int.reduceMul, Int.reduceToNat, Nat.reduceLT, Nat.reduceLeDiff, beq_self_eq_true, reduceIte, eq_self, Int.reduceNe, Int.reduceBNe, not_true_eq_false, not_false_eq_true, true_and, and_true, true_or, or_true, false_or, or_false, and_false, false_and, decide_eq_true_eq, Bool.true_and, Bool.and_true, Bool.false_and, Bool.and_false, Bool.true_or, Bool.or_true, Bool.false_or, Bool.or_false, h1, h2, h3, ev_raise]
    · simp only [fnOf, ev_seq, ev_asg, sBnd_def, ev_op, ev_un, bnd_def, ev_call, evs_cons, evs_nil, ev_var, ev_c, ev_if, ev_next, ev_expr, ev_tru, ev_bl, ev_and, ev_or, ev_not, ev_yes, ev_andE, ev_orE, ev_notE, ev_ifE, ev_chain, ofB_some, ofO_some, ofO_none, truD_non, truD_bl, truD_int, truD_str, truD_tup, truD_lst, truD_lsk, ev_tup, ev_lst, ev_nwF, ev_nwM, ev_meth, ev_make, ev_fld, ev_setF, ev_bm1, asQ_tup, asQ_lst, asQ_lsk, asL_lst, asL_lsk, dLen_tup, dLen_lst, dLen_lsk, dLen_str, dIx_tup, dIx_lst, dIx_lsk, dIx_str, dAdd_int, dNeg_int, isN_def, notN_def, isNon_non, isNon_int, isNon_bl, isNon_str, isNon_tup, isNon_lst, isNon_obj, isNon_exc, dEq_int, dNe_int, dEq_str, dNe_str, dEq_bl, atI_zero, atI_one, atI_2, atI_3, atI_4, atI_5, atI_6, atI_7, atI_8, atI_9, atI_10, atI_11, atI_12, atI_m1, ev_gT, setAll_nil, setAll_cons, iOp_int, ev_gN, ev_ret, List.map_cons, List.map_nil, List.length_cons, List.length_nil, rep_zero, rep_succ, List.cons_append, List.nil_append, List.getElem?_cons_zero, List.getElem?_cons_succ, List.set_cons_zero, List.set_cons_succ, Nat.sub_self, Nat.reduceAdd, Nat.reduceSub, Option.map_some, Option.bind_some, if_true, Bool.not_true, Bool.not_false, Bool.false_eq_true, if_false, decide_true, decide_false, Int.reduceBEq, Int.reduceEq, Int.reduceLT, Int.reduceLE, Int.reduceNeg, Int.reduceAdd, Int.reduceSub, Int.reduceMul, Int.reduceToNat, Nat.reduceLT, Nat.reduceLeDiff, beq_self_eq_true, reduceIte, eq_self, Int.reduceNe, Int.reduceBNe, not_true_eq_false, not_false_eq_true, true_and, and_true, true_or, or_true, false_or, or_false, and_false, false_and, decide_eq_true_eq, Bool.true_and, Bool.and_true, Bool.false_and, Bool.and_false, Bool.true_or, Bool.or_true, Bool.false_or, Bool.or_false, h1, h2, ev_raise]
  · simp only [fnOf, ev_seq, ev_asg, sBnd_def, ev_op, ev_un, bnd_def, ev_call, evs_cons, evs_nil, ev_var, ev_c, ev_if, ev_next, ev_expr, ev_tru, ev_bl, ev_and, ev_or, ev_not, ev_yes, ev_andE, ev_orE, ev_notE, ev_ifE, ev_chain, ofB_some, ofO_some, ofO_none, truD_non, truD_bl, truD_int, truD_str, truD_tup, truD_lst, truD_lsk, ev_tup, ev_lst, ev_nwF, ev_nwM, ev_meth, ev_make, ev_fld, ev_setF, ev_bm1, asQ_tup, asQ_lst, asQ_lsk, asL_lst, asL_lsk, dLen_tup, dLen_lst, dLen_lsk, dLen_str, dIx_tup, dIx_lst, dIx_lsk, dIx_str, dAdd_int, dNeg_int, isN_def, notN_def, isNon_non, isNon_int, isNon_bl, isNon_str, isNon_tup, isNon_lst, isNon_obj, isNon_exc, dEq_int, dNe_int, dEq_str, dNe_str, dEq_bl, atI_zero, atI_one, atI_2, atI_3, atI_4, atI_5, atI_6, atI_7, atI_8, atI_9, atI_10, atI_11, atI_12, atI_m1, ev_gT, setAll_nil, setAll_cons, iOp_int, ev_gN, ev_ret, List.map_cons, List.map_nil, List.length_cons, List.length_nil, rep_zero, rep_succ, List.cons_append, List.nil_append, List.getElem?_cons_zero, List.getElem?_cons_succ, List.set_cons_zero, List.set_cons_succ, Nat.sub_self, Nat.reduceAdd, Nat.reduceSub, Option.map_some, Option.bind_some, if_true, Bool.not_true, Bool.not_false, Bool.false_eq_true, if_false, decide_true, decide_false, Int.reduceBEq, Int.reduceEq, Int.reduceLT, Int.reduceLE, Int.reduceNeg, Int.reduceAdd, Int.reduceSub, Int.reduceMul, Int.reduceToNat, Nat.reduceLT, Nat.reduceLeDiff, beq_self_eq_true, reduceIte, eq_self, Int.reduceNe, Int.reduceBNe, not_true_eq_false, not_false_eq_true, true_and, and_true, true_or, or_true, false_or, or_false, and_false, false_and, decide_eq_true_eq, Bool.true_and, Bool.and_true, Bool.false_and, Bool.and_false, Bool.true_or, Bool.or_true, Bool.false_or, Bool.or_false, h1, ev_raise]
theorem ev_init {w m : Int} {R : List SP} {s : Sto} (h : (1 ≤ w ∧ w ≤ 20) ∧ (w ≤ m ∧ m ≤ 65535)) (o : Own R s) :
    ∃ s', m_Giver_init [.obj s.length, .int w, .int m] (s ++ [.ins 0 []]) = .ok .non s' ∧ Own (GvA s.length ⟨w, m, 0, [], []⟩ :: R) s' := by
  have o1 := o.new (.ins 0 [])
  have z1 := setFD_obj (i := 0) (y := .int w) o1.get (by simp)
  have o2 := o1.set (.ins 0 [.int w])
  have z2 := setFD_obj (i := 1) (y := .int m) o2.get (by simp)
  have o3 := o2.set (.ins 0 [.int w, .int m])
  have z3 := setFD_obj (i := 2) (y := .int 0) o3.get (by simp)
  have o4 := o3.set (.ins 0 [.int w, .int m, .int 0])
  generalize hs : (((s ++ [Mo.ins 0 []]).set s.length (.ins 0 [.int w])).set s.length (.ins 0 [.int w, .int m])).set s.length (.ins 0 [.int w, .int m, .int 0]) = s4 at *
  have o5 := o4.new (.lst [])
  have z5 := setFD_obj (i := 3) (y := .obj s4.length) (own2 o5).get (by simp)
  have o6 := (own2 o5).set (.ins 0 [.int w, .int m, .int 0, .obj s4.length])
  generalize hs6 : (s4 ++ [Mo.lst []]).set s.length (.ins 0 [.int w, .int m, .int 0, .obj s4.length]) = s6 at *
  have o7 := o6.new (.lst [])
  have z7 := setFD_obj (i := 4) (y := .obj s6.length) (own2 o7).get (by simp)
  have o8 := (own2 o7).set (.ins 0 [.int w, .int m, .int 0, .obj s4.length, .obj s6.length])
  refine ⟨_, ?_, own_gv.mpr ⟨s4.length, s6.length, o8.ix [0, 2, 1]⟩⟩
  have p0 : putI 0 (Dt.int w) [] = [.int w] := rfl
  have p1 : putI 1 (Dt.int m) [.int w] = [.int w, .int m] := rfl
  have p2 : putI 2 (Dt.int 0) [.int w, .int m] = [.int w, .int m, .int 0] := rfl
  have p3 : putI 3 (Dt.obj s4.length) [.int w, .int m, .int 0] = [.int w, .int m, .int 0, .obj s4.length] := rfl
  have p4 : putI 4 (Dt.obj s6.length) [.int w, .int m, .int 0, .obj s4.length] = [.int w, .int m, .int 0, .obj s4.length, .obj s6.length] := rfl
  rw [p0] at z1
  rw [p1] at z2
  rw [p2] at z3
  rw [hs] at z3
  rw [p3] at z5
  rw [hs6] at z5
  rw [p4] at z7
  unfold m_Giver_init b_Giver_init
  simp only [fnOf, ev_seq, ev_asg, sBnd_def, ev_op, ev_un, bnd_def, ev_call, evs_cons, evs_nil, ev_var, ev_c, ev_if, ev_next, ev_expr, ev_tru, ev_bl, ev_and, ev_or, ev_not, ev_yes, ev_andE, ev_orE, ev_notE, ev_ifE, ev_chain, ofB_some, ofO_some, ofO_none, truD_non, truD_bl, truD_int, truD_str, truD_tup, truD_lst, truD_lsk, ev_tup, ev_lst, ev_nwF, ev_nwM, ev_meth, ev_make, ev_fld, ev_setF, ev_bm1, asQ_tup, asQ_lst, asQ_lsk, asL_lst, asL_lsk, dLen_tup, dLen_lst, dLen_lsk, dLen_str, dIx_tup, dIx_lst, dIx_lsk, dIx_str, dAdd_int, dNeg_int, isN_def, notN_def, isNon_non, isNon_int, isNon_bl, isNon_str, isNon_tup, isNon_lst, isNon_obj, isNon_exc, dEq_int, dNe_int, dEq_str, dNe_str, dEq_bl, atI_zero, atI_one, atI_2, atI_3, atI_4, atI_5, atI_6, atI_7, atI_8, atI_9, atI_10, atI_11, atI_12, atI_m1, ev_gT, setAll_nil, setAll_cons, iOp_int, ev_gN, ev_ret, List.map_cons, List.map_nil, List.length_cons, List.length_nil, rep_zero, rep_succ, List.cons_append, List.nil_append, List.getElem?_cons_zero, List.getElem?_cons_succ, List.set_cons_zero, List.set_cons_succ, Nat.sub_self, Nat.reduceAdd, Nat.reduceSub, Option.map_some, Option.bind_some, if_true, Bool.not_true, Bool.not_false, Bool.false_eq_true, if_false, decide_true, decide_false, Int.reduceBEq, Int.reduceEq, Int.reduceLT, Int.reduceLE, Int.reduceNeg, Int.reduceAdd, Int.reduceSub, Int.reduceMul, Int.reduceToNat, Nat.reduceLT, Nat.reduceLeDiff, beq_self_eq_true, reduceIte, eq_self, Int.reduceNe, Int.reduceBNe, not_true_eq_false, not_false_eq_true, true_and, and_true, true_or, or_true, false_or, or_false, and_false, false_and, decide_eq_true_eq, Bool.true_and, Bool.and_true, Bool.false_and, Bool.and_false, Bool.true_or, Bool.or_true, Bool.false_or, Bool.or_false, ev_ends, h, z1, z2, z3, z5, z7]
theorem Gv.new_ok {w m : Int} (h : (1 ≤ w ∧ w ≤ 20) ∧ (w ≤ m ∧ m ≤ 65535)) : (⟨w, m, 0, [], []⟩ : Gv).Ok := ⟨h.1.1, h.2.1, h.2.2, by show 0 ≤ (0 : Int) ∧ (0 : Int) ≤ m; omega, by show ((0 : Nat) : Int) ≤ w; omega, by simp⟩
theorem Gv.new_inv {w m : Int} : (⟨w, m, 0, [], []⟩ : Gv).Inv := ⟨List.nodup_nil, (fun f hf => nomatch hf), (fun t ht => nomatch ht)⟩
theorem Gv.new_flt {w m : Int} : (⟨w, m, 0, [], []⟩ : Gv).Flt := ⟨(fun f hf => nomatch hf), (fun t ht => nomatch ht)⟩
/-! what a pump sends -/
def sayF (f : Fy) : Dt := match f.t with
  | some t => sayD t false f.n
  | none => .non
theorem pump_split : ∀ (ws : List Td) (g : Gv), g.waits = ws → ∃ (ts rest : List Td) (fs : List Fy), g.waits = ts ++ rest ∧ g.pump.1.waits = rest ∧ g.pump.1.flies = g.flies ++ fs ∧ g.pump.2 = fs.map sayF ∧ fs.map (·.t) = ts.map some ∧ (∀ f ∈ fs, ∃ t ∈ ts, f.t = some t ∧ f.g = t.g) ∧ (rest ≠ [] → ¬ (g.pump.1.flies.length : Int) < g.win) ∧ g.pump.1.win = g.win ∧ g.pump.1.most = g.most
  | [], g, hw => by
    rw [Gv.pump_nil hw]
    exact ⟨[], [], [], hw, hw, by simp, rfl, rfl, (fun f hf => nomatch hf), (fun h => absurd rfl h), rfl, rfl⟩
  | t :: r, g, hw => by
    by_cases h : (g.flies.length : Int) < g.win
    · obtain ⟨ts, rest, fs, h1, h2, h3, h4, h5, h6, h7, h8, h9⟩ := pump_split r (g.go t r) rfl
      rw [Gv.pump_cons hw h]
      have h1 : r = ts ++ rest := h1
      refine ⟨t :: ts, rest, ⟨g.num, t.g, some t⟩ :: fs, by rw [hw, h1]; rfl, h2, ?_, ?_, ?_, ?_, h7, h8, h9⟩
      · show (g.go t r).pump.1.flies = _
        rw [h3]
        simp [Gv.go]
      · show _ :: (g.go t r).pump.2 = _
        rw [h4]
        rfl
      · rw [List.map_cons, h5]; rfl
      · intro f hf
        rcases List.mem_cons.mp hf with e | hf
        · exact ⟨t, List.mem_cons_self, by rw [e], by rw [e]⟩
        · obtain ⟨u, hu, q⟩ := h6 f hf
          exact ⟨u, List.mem_cons_of_mem _ hu, q⟩
    · rw [Gv.pump_full h]
      exact ⟨[], g.waits, [], rfl, rfl, by simp, rfl, rfl, (fun f hf => nomatch hf), (fun _ => h), rfl, rfl⟩
end Tx
namespace Tx
open PySem L2 Pd
/-! ### a line between a giver and a taker -/
noncomputable instance : DecidableEq Td := fun a b => Classical.propDecidable _
inductive Pk where
  | z (t : Td) | s (t : Td) (ag : Bool) (n : Int) | f (n : Int)
inductive An where
  | got (n : Int) | held (n : Int) | done (n : Int)
def Pk.d : Pk → Dt
  | .z t => sayD t false 0
  | .s t ag n => sayD t ag n
  | .f n => freeD n
def An.n : An → Int
  | .got n => n
  | .held n => n
  | .done n => n
def Pk.i : Pk → Option Int
  | .z _ => none
  | .s _ _ n => some n
  | .f n => some n
def Pk.td (c : Int) : Pk → Option Td
  | .s t _ _ => if t.g = c then some t else none
  | _ => none
def thI (l : List Pk) : List Int := l.filterMap Pk.i
def bkI (l : List An) : List Int := l.map An.n
def thS (c : Int) (l : List Pk) : List Td := l.filterMap (Pk.td c)
def Fy.td (c : Int) (f : Fy) : Option Td := match f.t with
  | some t => if t.g = c then some t else none
  | none => none
def flS (c : Int) (l : List Fy) : List Td := l.filterMap (Fy.td c)
def wS (c : Int) (l : List Td) : List Td := l.filter fun t => decide (t.g = c)
noncomputable def und (d l : List Td) : List Td := l.filter fun t => decide (t ∉ d)
theorem und_app (d a b : List Td) : und d (a ++ b) = und d a ++ und d b := List.filter_append ..
theorem und_all {d l : List Td} (h : ∀ t ∈ l, t ∉ d) : und d l = l := List.filter_eq_self.mpr fun t ht => decide_eq_true (h t ht)
theorem und_in {d : List Td} {t : Td} (h : t ∈ d) : und d [t] = [] := by simp [und, h]
theorem und_new {d l : List Td} {t : Td} (h : t ∉ l) : und (d ++ [t]) l = und d l := by
  unfold und
  refine List.filter_congr fun u hu => ?_
  have : u ≠ t := fun e => h (by rw [← e]; exact hu)
  simp [this]
theorem mem_und {d l : List Td} {t : Td} : t ∈ und d l ↔ t ∈ l ∧ t ∉ d := by simp [und]
structure Li (g : Gv) (nu : List Int) (th : List Pk) (bk : List An) (d : Int → List Td) (sd : Int → List Td) : Prop where
  ok : g.Ok
  inv : g.Inv
  pm : (thI th ++ bkI bk).Perm g.used
  ts : ∀ t ag n, Pk.s t ag n ∈ th → (⟨n, t.g, some t⟩ : Fy) ∈ g.flies
  tf : ∀ n, Pk.f n ∈ th → (⟨n, 3, none⟩ : Fy) ∈ g.flies
  bg : ∀ n, An.got n ∈ bk → ∃ t, (⟨n, 1, some t⟩ : Fy) ∈ g.flies ∧ t ∈ d 1
  bh : ∀ n, An.held n ∈ bk → ∃ t, (⟨n, 2, some t⟩ : Fy) ∈ g.flies ∧ t ∈ d 2
  bd : ∀ n, An.done n ∈ bk → (⟨n, 3, none⟩ : Fy) ∈ g.flies ∧ n ∉ nu
  nu1 : ∀ n ∈ nu, (∃ t, (⟨n, 2, some t⟩ : Fy) ∈ g.flies ∧ t ∈ d 2) ∨ (⟨n, 3, none⟩ : Fy) ∈ g.flies
  nu2 : ∀ n t, (⟨n, 2, some t⟩ : Fy) ∈ g.flies → t ∈ d 2 → n ∈ nu
  eq : ∀ c, c = 1 ∨ c = 2 → sd c = d c ++ und (d c) (thS c th) ++ wS c g.waits
  fl : ∀ c, c = 1 ∨ c = 2 → und (d c) (thS c th) = und (d c) (flS c g.flies)
  nd : ∀ c, c = 1 ∨ c = 2 → (sd c).Nodup
theorem fly_eq {g : Gv} (i : g.Inv) {x y : Fy} (hx : x ∈ g.flies) (hy : y ∈ g.flies) (e : x.n = y.n) : x = y := by
  have nd := i.nd
  unfold Gv.used at nd
  generalize g.flies = l at *
  induction l with
  | nil => cases hx
  | cons a l ih =>
    rw [List.map_cons, List.nodup_cons] at nd
    rcases List.mem_cons.mp hx with h1 | h1
    · rcases List.mem_cons.mp hy with h2 | h2
      · rw [h1, h2]
      · exact absurd (List.mem_map.mpr ⟨y, h2, by rw [← e, h1]⟩) nd.1
    · rcases List.mem_cons.mp hy with h2 | h2
      · exact absurd (List.mem_map.mpr ⟨x, h1, by rw [e, h2]⟩) nd.1
      · exact ih h1 h2 nd.2
section
variable {g : Gv} {nu : List Int} {th : List Pk} {bk : List An} {d sd : Int → List Td}
theorem Li.ids_nd (L : Li g nu th bk d sd) : (thI th ++ bkI bk).Nodup := L.pm.nodup_iff.mpr L.inv.nd
/-! a tiding waits -/
def addS (sd : Int → List Td) (t : Td) : Int → List Td := fun c => if c = t.g then sd c ++ [t] else sd c
theorem Li.keep (L : Li g nu th bk d sd) {t : Td} (ht : t.g = 1 ∨ t.g = 2) (hl : g.waits.length < 5000) (hn : t ∉ sd t.g) : Li (g.keep t) nu th bk d (addS sd t) := by
  have hk : g.keep t = { g with waits := g.waits ++ [t] } := by unfold Gv.keep; rw [if_pos (by omega)]
  have ok := L.ok.keep (t := t) hl
  have inv := L.inv.keep (t := t) (by omega)
  rw [hk] at ok inv ⊢
  refine ⟨ok, inv, L.pm, L.ts, L.tf, L.bg, L.bh, L.bd, L.nu1, L.nu2, fun c hc => ?_, L.fl, fun c hc => ?_⟩
  · unfold addS
    have := L.eq c hc
    by_cases e : c = t.g
    · rw [if_pos e, this]
      simp [wS, List.filter_append, e]
    · rw [if_neg e, this]
      have : decide (t.g = c) = false := decide_eq_false (fun z => e z.symm)
      simp [wS, List.filter_append, this]
  · unfold addS
    by_cases e : c = t.g
    · rw [if_pos e]
      refine List.nodup_append.mpr ⟨L.nd c hc, by simp, fun a ha b hb => ?_⟩
      rw [List.mem_singleton] at hb
      rw [hb]
      intro z
      exact hn (by rw [← e, ← z]; exact ha)
    · rw [if_neg e]; exact L.nd c hc
/-! what may be under way goes -/
def newP (f : Fy) : Pk := match f.t with
  | some t => .s t false f.n
  | none => .f f.n
theorem thI_new : ∀ l : List Fy, thI (l.map newP) = l.map (·.n)
  | [] => rfl
  | f :: l => by
    have := thI_new l
    unfold thI at this ⊢
    rw [List.map_cons, List.map_cons]
    have h : (newP f).i = some f.n := by unfold newP; cases f.t <;> rfl
    rw [List.filterMap_cons_some h, this]
theorem thS_new (c : Int) : ∀ l : List Fy, thS c (l.map newP) = flS c l
  | [] => rfl
  | f :: l => by
    have ih := thS_new c l
    unfold thS flS at ih ⊢
    have h : (newP f).td c = f.td c := by unfold newP Fy.td; cases f.t <;> rfl
    rw [List.map_cons, List.filterMap_cons, List.filterMap_cons, h, ih]
theorem flS_ts (c : Int) : ∀ {fs : List Fy} {ts : List Td}, fs.map (·.t) = ts.map some → flS c fs = wS c ts
  | [], [], _ => rfl
  | [], _ :: _, h => by simp at h
  | _ :: _, [], h => by simp at h
  | f :: fs, t :: ts, h => by
    simp only [List.map_cons, List.cons.injEq] at h
    have ih := flS_ts c h.2
    unfold flS wS at ih ⊢
    rw [List.filterMap_cons, List.filter_cons, ih]
    have h2 : f.td c = if t.g = c then some t else none := by unfold Fy.td; rw [h.1]
    rw [h2]
    by_cases e : t.g = c
    · simp [e]
    · simp [e]
theorem Li.pump (L : Li g nu th bk d sd) : ∃ fs : List Fy, g.pump.2 = fs.map sayF ∧ (∀ f ∈ fs, ∃ t, f.t = some t ∧ f.g = t.g) ∧ Li g.pump.1 nu (th ++ fs.map newP) bk d sd := by
  obtain ⟨ts, rest, fs, h1, h2, h3, h4, h5, h6, h7, h8, h9⟩ := pump_split _ g rfl
  have hp := Gv.pump_inv _ g rfl L.ok L.inv
  have hsub : ∀ f ∈ g.flies, f ∈ g.pump.1.flies := fun f hf => by rw [h3]; simp [hf]
  have hnew : ∀ c, c = 1 ∨ c = 2 → ∀ t ∈ wS c ts, t ∉ d c := fun c hc t ht hd => by
    have nd := L.nd c hc
    rw [L.eq c hc, h1] at nd
    have hm : t ∈ wS c (ts ++ rest) := by unfold wS at ht ⊢; rw [List.filter_append]; simp [ht]
    exact (List.nodup_append.mp nd).2.2 t (by simp [hd]) t hm rfl
  have hflS : ∀ c, flS c fs = wS c ts := fun c => flS_ts c h5
  refine ⟨fs, h4, fun f hf => ?_, ⟨hp.2.1, hp.1, ?_, ?_, ?_, ?_, ?_, ?_, ?_, ?_, ?_, ?_, L.nd⟩⟩
  · obtain ⟨t, _, q1, q2⟩ := h6 f hf
    exact ⟨t, q1, q2⟩
  · have e : thI (th ++ fs.map newP) = thI th ++ fs.map (·.n) := by
      have := thI_new fs
      unfold thI at this ⊢
      rw [List.filterMap_append, this]
    have e2 : g.pump.1.used = g.used ++ fs.map (·.n) := by unfold Gv.used; rw [h3, List.map_append]
    rw [e, e2, List.append_assoc]
    refine (List.Perm.append_left _ List.perm_append_comm).trans ?_
    rw [← List.append_assoc]
    exact L.pm.append_right _
  · intro t ag n h
    rcases List.mem_append.mp h with h | h
    · exact hsub _ (L.ts t ag n h)
    · obtain ⟨f, hf, e⟩ := List.mem_map.mp h
      obtain ⟨u, _, q1, q2⟩ := h6 f hf
      unfold newP at e
      rw [q1] at e
      simp only [Pk.s.injEq] at e
      obtain ⟨e1, _, e3⟩ := e
      rw [h3]
      refine List.mem_append_right _ ?_
      have : f = ⟨n, t.g, some t⟩ := by
        cases f
        simp only at q1 q2 e3
        rw [e3, q1, q2, e1]
      rw [← this]
      exact hf
  · intro n h
    rcases List.mem_append.mp h with h | h
    · exact hsub _ (L.tf n h)
    · obtain ⟨f, hf, e⟩ := List.mem_map.mp h
      obtain ⟨u, _, q1, q2⟩ := h6 f hf
      unfold newP at e
      rw [q1] at e
      cases e
  · intro n h
    obtain ⟨t, q1, q2⟩ := L.bg n h
    exact ⟨t, hsub _ q1, q2⟩
  · intro n h
    obtain ⟨t, q1, q2⟩ := L.bh n h
    exact ⟨t, hsub _ q1, q2⟩
  · intro n h
    obtain ⟨q1, q2⟩ := L.bd n h
    exact ⟨hsub _ q1, q2⟩
  · intro n h
    rcases L.nu1 n h with ⟨t, q1, q2⟩ | q1
    · exact .inl ⟨t, hsub _ q1, q2⟩
    · exact .inr (hsub _ q1)
  · intro n t h ht
    rw [h3] at h
    rcases List.mem_append.mp h with h | h
    · exact L.nu2 n t h ht
    · obtain ⟨u, hu, q1, q2⟩ := h6 _ h
      simp only [Option.some.injEq] at q1 q2
      subst q1
      refine absurd ht (hnew 2 (.inr rfl) t ?_)
      unfold wS
      simp [hu, ← q2]
  · intro c hc
    have e : thS c (th ++ fs.map newP) = thS c th ++ flS c fs := by
      have := thS_new c fs
      unfold thS at this ⊢
      rw [List.filterMap_append, this]
    rw [L.eq c hc, e, hflS c, und_app, und_all (hnew c hc), h2, h1]
    unfold wS
    rw [List.filter_append]
    simp only [List.append_assoc]
  · intro c hc
    have e : thS c (th ++ fs.map newP) = thS c th ++ flS c fs := by
      have := thS_new c fs
      unfold thS at this ⊢
      rw [List.filterMap_append, this]
    have e2 : flS c g.pump.1.flies = flS c g.flies ++ flS c fs := by unfold flS; rw [h3, List.filterMap_append]
    rw [e, e2, und_app, und_app, L.fl c hc]
end
section
variable {g : Gv} {nu : List Int} {th : List Pk} {bk : List An} {d sd : Int → List Td}
theorem und_cons {d l : List Td} {t : Td} : und d (t :: l) = if t ∈ d then und d l else t :: und d l := by
  unfold und
  rw [List.filter_cons]
  by_cases h : t ∈ d
  · simp [h]
  · simp [h]
theorem und_step {d l : List Td} {t : Td} : und (d ++ [t]) l = (und d l).filter fun u => decide (u ≠ t) := by
  unfold und
  rw [List.filter_filter]
  refine List.filter_congr fun u _ => ?_
  by_cases h1 : u ∈ d
  · simp [h1]
  · by_cases h2 : u = t
    · simp [h2]
    · simp [h1, h2]
theorem fm_inj {α : Type} {f : α → Option Td} {p : Td → Bool} : ∀ {l : List α}, ((l.filterMap f).filter p).Nodup → ∀ {x y : α} {t : Td}, x ∈ l → y ∈ l → f x = some t → f y = some t → p t = true → x = y
  | [], _, x, y, t, hx, _, _, _, _ => nomatch hx
  | a :: l, nd, x, y, t, hx, hy, fx, fy, hp => by
    have sub : ((l.filterMap f).filter p).Nodup := by
      rw [List.filterMap_cons] at nd
      split at nd
      · exact nd
      · rw [List.filter_cons] at nd
        split at nd
        · exact (List.nodup_cons.mp nd).2
        · exact nd
    have dup : ∀ z ∈ l, f a = some t → f z = some t → False := fun z hz fa fz => by
      rw [List.filterMap_cons, fa, List.filter_cons, if_pos hp, List.nodup_cons] at nd
      exact nd.1 (List.mem_filter.mpr ⟨List.mem_filterMap.mpr ⟨z, hz, fz⟩, hp⟩)
    rcases List.mem_cons.mp hx with h1 | h1
    · rcases List.mem_cons.mp hy with h2 | h2
      · rw [h1, h2]
      · exact (dup y h2 (by rw [← h1]; exact fx) fy).elim
    · rcases List.mem_cons.mp hy with h2 | h2
      · exact (dup x h1 (by rw [← h2]; exact fy) fx).elim
      · exact fm_inj sub h1 h2 fx fy hp
theorem Li.und_nd (L : Li g nu th bk d sd) {c : Int} (hc : c = 1 ∨ c = 2) : (und (d c) (thS c th)).Nodup := by
  have nd := L.nd c hc
  rw [L.eq c hc] at nd
  exact (List.nodup_append.mp (List.nodup_append.mp nd).1).2.1
theorem thI_cons {p : Pk} : thI (p :: th) = (match p.i with | some n => [n] | none => []) ++ thI th := by
  unfold thI
  rw [List.filterMap_cons]
  cases p.i <;> rfl
/-! ### a packet comes to the taker -/
theorem Li.tz {t : Td} (L : Li g nu (.z t :: th) bk d sd) : Li g nu th bk d sd :=
  ⟨L.ok, L.inv, L.pm, fun t ag n h => L.ts t ag n (List.mem_cons_of_mem _ h), fun n h => L.tf n (List.mem_cons_of_mem _ h), L.bg, L.bh, L.bd, L.nu1, L.nu2, L.eq, L.fl, L.nd⟩
noncomputable def addD (d : Int → List Td) (t : Td) : Int → List Td := fun c => if c = t.g then (if t ∈ d c then d c else d c ++ [t]) else d c
theorem addD_mem {t u : Td} {c : Int} (h : u ∈ d c) : u ∈ addD d t c := by
  unfold addD
  split
  · split
    · exact h
    · simp [h]
  · exact h
theorem addD_self {t : Td} : t ∈ addD d t t.g := by
  unfold addD
  rw [if_pos rfl]
  split
  · assumption
  · simp
/-- the equations behind a tiding that is handed on -/
theorem Li.deliver {t : Td} {ag : Bool} {n : Int} (L : Li g nu (.s t ag n :: th) bk d sd) (c : Int) (hc : c = 1 ∨ c = 2) :
    sd c = addD d t c ++ und (addD d t c) (thS c th) ++ wS c g.waits ∧ und (addD d t c) (thS c th) = und (addD d t c) (flS c g.flies) := by
  have e1 := L.eq c hc
  have e2 := L.fl c hc
  have nd := L.und_nd hc
  unfold addD
  by_cases e : c = t.g
  · have e3 : thS c (.s t ag n :: th) = t :: thS c th := by unfold thS; rw [List.filterMap_cons]; simp [Pk.td, e]
    rw [if_pos e]
    rw [e3, und_cons] at e1 e2 nd
    by_cases h : t ∈ d c
    · rw [if_pos h] at e1 e2 ⊢
      exact ⟨e1, e2⟩
    · rw [if_neg h] at e1 e2 nd ⊢
      rw [List.nodup_cons] at nd
      have hr : t ∉ thS c th := fun z => nd.1 (mem_und.mpr ⟨z, h⟩)
      have ef : (und (d c) (thS c th)).filter (fun u => decide (u ≠ t)) = und (d c) (thS c th) := List.filter_eq_self.mpr fun u hu => decide_eq_true fun z => nd.1 (by rw [← z]; exact hu)
      constructor
      · rw [und_new hr, e1]
        simp
      · rw [und_step, und_step, ← e2, List.filter_cons, if_neg (by simp), ef]
  · have e3 : thS c (.s t ag n :: th) = thS c th := by
      unfold thS
      rw [List.filterMap_cons]
      have : (Pk.s t ag n).td c = none := if_neg (fun z => e z.symm)
      rw [this]
    rw [e3] at e1 e2
    rw [if_neg e]
    exact ⟨e1, e2⟩
theorem perm_rot {a : List Int} {b : List Int} {n : Int} {u : List Int} (h : (n :: a ++ b).Perm u) : (a ++ (b ++ [n])).Perm u := by
  refine List.Perm.trans ?_ h
  rw [← List.append_assoc]
  exact List.perm_append_comm
theorem Li.t1 {t : Td} {ag : Bool} {n : Int} (L : Li g nu (.s t ag n :: th) bk d sd) (h : t.g = 1) : Li g nu th (bk ++ [.got n]) (addD d t) sd where
  ok := L.ok
  inv := L.inv
  pm := by
    have := L.pm
    rw [thI_cons] at this
    unfold bkI
    rw [List.map_append]
    exact perm_rot this
  ts := fun t ag n h => L.ts t ag n (List.mem_cons_of_mem _ h)
  tf := fun n h => L.tf n (List.mem_cons_of_mem _ h)
  bg := fun m hm => by
    rcases List.mem_append.mp hm with hm | hm
    · obtain ⟨u, q1, q2⟩ := L.bg m hm
      exact ⟨u, q1, addD_mem q2⟩
    · have : m = n := by simpa using hm
      subst this
      have := L.ts t ag m List.mem_cons_self
      rw [h] at this
      exact ⟨t, this, by rw [← h]; exact addD_self⟩
  bh := fun m hm => by
    rcases List.mem_append.mp hm with hm | hm
    · obtain ⟨u, q1, q2⟩ := L.bh m hm
      exact ⟨u, q1, addD_mem q2⟩
    · simp at hm
  bd := fun m hm => by
    rcases List.mem_append.mp hm with hm | hm
    · exact L.bd m hm
    · simp at hm
  nu1 := fun m hm => by
    rcases L.nu1 m hm with ⟨u, q1, q2⟩ | q
    · exact .inl ⟨u, q1, addD_mem q2⟩
    · exact .inr q
  nu2 := fun m u q1 q2 => L.nu2 m u q1 (by unfold addD at q2; rw [if_neg (by omega)] at q2; exact q2)
  eq := fun c hc => (L.deliver c hc).1
  fl := fun c hc => (L.deliver c hc).2
  nd := L.nd
theorem Li.known {t : Td} {ag : Bool} {n : Int} (L : Li g nu (.s t ag n :: th) bk d sd) (h : t.g = 2) : n ∈ nu ↔ t ∈ d 2 := by
  have hx := L.ts t ag n List.mem_cons_self
  rw [h] at hx
  constructor
  · intro hn
    rcases L.nu1 n hn with ⟨u, q1, q2⟩ | q1
    · have := fly_eq L.inv hx q1 rfl
      simp only [Fy.mk.injEq, Option.some.injEq, true_and] at this
      rw [this]; exact q2
    · have := fly_eq L.inv hx q1 rfl
      simp at this
  · exact fun hd => L.nu2 n t hx hd
theorem Li.t2 {t : Td} {ag : Bool} {n : Int} (L : Li g nu (.s t ag n :: th) bk d sd) (h : t.g = 2) : Li g (if n ∈ nu then nu else nu ++ [n]) th (bk ++ [.held n]) (addD d t) sd where
  ok := L.ok
  inv := L.inv
  pm := by
    have := L.pm
    rw [thI_cons] at this
    unfold bkI
    rw [List.map_append]
    exact perm_rot this
  ts := fun t ag n h => L.ts t ag n (List.mem_cons_of_mem _ h)
  tf := fun n h => L.tf n (List.mem_cons_of_mem _ h)
  bg := fun m hm => by
    rcases List.mem_append.mp hm with hm | hm
    · obtain ⟨u, q1, q2⟩ := L.bg m hm
      exact ⟨u, q1, addD_mem q2⟩
    · simp at hm
  bh := fun m hm => by
    rcases List.mem_append.mp hm with hm | hm
    · obtain ⟨u, q1, q2⟩ := L.bh m hm
      exact ⟨u, q1, addD_mem q2⟩
    · have : m = n := by simpa using hm
      subst this
      have := L.ts t ag m List.mem_cons_self
      rw [h] at this
      exact ⟨t, this, by rw [← h]; exact addD_self⟩
  bd := fun m hm => by
    rcases List.mem_append.mp hm with hm | hm
    · obtain ⟨q1, q2⟩ := L.bd m hm
      refine ⟨q1, ?_⟩
      split
      · exact q2
      · intro z
        rcases List.mem_append.mp z with z | z
        · exact q2 z
        · have : m = n := by simpa using z
          subst this
          have := fly_eq L.inv (L.ts t ag m List.mem_cons_self) q1 rfl
          simp at this
    · simp at hm
  nu1 := fun m hm => by
    have : m ∈ nu ∨ m = n := by
      split at hm
      · exact .inl hm
      · rcases List.mem_append.mp hm with z | z
        · exact .inl z
        · exact .inr (by simpa using z)
    rcases this with hm | hm
    · rcases L.nu1 m hm with ⟨u, q1, q2⟩ | q
      · exact .inl ⟨u, q1, addD_mem q2⟩
      · exact .inr q
    · subst hm
      have := L.ts t ag m List.mem_cons_self
      rw [h] at this
      exact .inl ⟨t, this, by rw [← h]; exact addD_self⟩
  nu2 := fun m u q1 q2 => by
    have hk := L.known h
    unfold addD at q2
    rw [if_pos h.symm] at q2
    by_cases ht : t ∈ d 2
    · rw [if_pos ht] at q2
      rw [if_pos (hk.mpr ht)]
      exact L.nu2 m u q1 q2
    · rw [if_neg ht] at q2
      rw [if_neg (fun z => ht (hk.mp z))]
      rcases List.mem_append.mp q2 with q2 | q2
      · exact List.mem_append_left _ (L.nu2 m u q1 q2)
      · have e : u = t := by simpa using q2
        subst e
        have hx := L.ts u ag n List.mem_cons_self
        rw [h] at hx
        have nd := L.und_nd (c := 2) (.inr rfl)
        rw [L.fl 2 (.inr rfl)] at nd
        have := fm_inj nd q1 hx (t := u) (by unfold Fy.td; simp [h]) (by unfold Fy.td; simp [h]) (decide_eq_true ht)
        simp only [Fy.mk.injEq, and_true] at this
        rw [this]
        simp
  eq := fun c hc => (L.deliver c hc).1
  fl := fun c hc => (L.deliver c hc).2
  nd := L.nd
theorem Li.tfree {n : Int} (L : Li g nu (.f n :: th) bk d sd) : Li g (nu.filter (· != n)) th (bk ++ [.done n]) d sd where
  ok := L.ok
  inv := L.inv
  pm := by
    have := L.pm
    rw [thI_cons] at this
    unfold bkI
    rw [List.map_append]
    exact perm_rot this
  ts := fun t ag n h => L.ts t ag n (List.mem_cons_of_mem _ h)
  tf := fun n h => L.tf n (List.mem_cons_of_mem _ h)
  bg := fun m hm => by
    rcases List.mem_append.mp hm with hm | hm
    · exact L.bg m hm
    · simp at hm
  bh := fun m hm => by
    rcases List.mem_append.mp hm with hm | hm
    · exact L.bh m hm
    · simp at hm
  bd := fun m hm => by
    rcases List.mem_append.mp hm with hm | hm
    · obtain ⟨q1, q2⟩ := L.bd m hm
      exact ⟨q1, fun z => q2 (List.mem_filter.mp z).1⟩
    · have : m = n := by simpa using hm
      subst this
      exact ⟨L.tf m List.mem_cons_self, by simp⟩
  nu1 := fun m hm => L.nu1 m (List.mem_filter.mp hm).1
  nu2 := fun m u q1 q2 => by
    refine List.mem_filter.mpr ⟨L.nu2 m u q1 q2, ?_⟩
    have : m ≠ n := fun e => by
      subst e
      have := fly_eq L.inv q1 (L.tf m List.mem_cons_self) rfl
      simp at this
    simpa using this
  eq := L.eq
  fl := L.fl
  nd := L.nd
end
/-! ### an answer comes to the giver -/
section
variable {g : Gv} {nu : List Int} {th : List Pk} {bk : List An} {d sd : Int → List Td}
theorem Li.head_nd {a : An} (L : Li g nu th (a :: bk) d sd) : (∀ m ∈ thI th, m ≠ a.n) ∧ ∀ m ∈ bkI bk, m ≠ a.n := by
  have nd := L.ids_nd
  have e : thI th ++ bkI (a :: bk) = thI th ++ a.n :: bkI bk := rfl
  rw [e] at nd
  have h := List.nodup_append.mp nd
  refine ⟨fun m hm z => h.2.2 m hm a.n List.mem_cons_self z, fun m hm z => ?_⟩
  have := (List.nodup_cons.mp h.2.1).1
  rw [z] at hm
  exact this hm
theorem thI_s {t : Td} {ag : Bool} {n : Int} (h : Pk.s t ag n ∈ th) : n ∈ thI th := List.mem_filterMap.mpr ⟨_, h, rfl⟩
theorem thI_f {n : Int} (h : Pk.f n ∈ th) : n ∈ thI th := List.mem_filterMap.mpr ⟨_, h, rfl⟩
theorem flS_app {c : Int} {A B : List Fy} : flS c (A ++ B) = flS c A ++ flS c B := List.filterMap_append
theorem flS_cons {c : Int} {x : Fy} {B : List Fy} : flS c (x :: B) = (match x.td c with | some t => [t] | none => []) ++ flS c B := by
  unfold flS
  rw [List.filterMap_cons]
  cases x.td c <;> rfl
theorem und_known {D : List Td} {c : Int} {A B : List Fy} {x : Fy} (h : ∀ t, x.td c = some t → t ∈ D) : und D (flS c (A ++ x :: B)) = und D (flS c (A ++ B)) := by
  rw [flS_app, flS_cons, flS_app, und_app, und_app, und_app]
  cases e : x.td c with
  | none => rfl
  | some t =>
    have := und_in (h t e)
    simp only [this]
    rfl
theorem Li.cut {a : An} {A B : List Fy} {x : Fy} (L : Li g nu th (a :: bk) d sd) (e : g.flies = A ++ x :: B) (hx : x.n = a.n) (hd : ∀ c t, x.td c = some t → t ∈ d c) (hn : a.n ∉ nu) : Li { g with flies := A ++ B } nu th bk d sd := by
  obtain ⟨h1, h2⟩ := L.head_nd
  have stay : ∀ f ∈ g.flies, f.n ≠ a.n → f ∈ A ++ B := fun f hf hne => by
    rw [e] at hf
    simp only [List.mem_append, List.mem_cons] at hf ⊢
    rcases hf with hf | hf | hf
    · exact .inl hf
    · exact absurd (by rw [hf, hx]) hne
    · exact .inr hf
  refine ⟨L.ok.cutA e, L.inv.cut e, ?_, fun t ag n h => stay _ (L.ts t ag n h) (h1 n (thI_s h)), fun n h => stay _ (L.tf n h) (h1 n (thI_f h)), fun n h => ?_, fun n h => ?_, fun n h => ?_, fun n h => ?_, fun n t h ht => ?_, L.eq, fun c hc => ?_, L.nd⟩
  · have pm := L.pm
    have e1 : thI th ++ bkI (a :: bk) = thI th ++ a.n :: bkI bk := rfl
    have e2 : g.used = A.map (·.n) ++ a.n :: B.map (·.n) := by unfold Gv.used; rw [e, List.map_append, List.map_cons, hx]
    rw [e1, e2] at pm
    have := (List.perm_middle.symm.trans pm).trans List.perm_middle
    have := (List.perm_cons a.n).mp this
    show (thI th ++ bkI bk).Perm ((A ++ B).map (·.n))
    rw [List.map_append]
    exact this
  · obtain ⟨t, q1, q2⟩ := L.bg n (List.mem_cons_of_mem _ h)
    exact ⟨t, stay _ q1 (h2 n (List.mem_map.mpr ⟨_, h, rfl⟩)), q2⟩
  · obtain ⟨t, q1, q2⟩ := L.bh n (List.mem_cons_of_mem _ h)
    exact ⟨t, stay _ q1 (h2 n (List.mem_map.mpr ⟨_, h, rfl⟩)), q2⟩
  · obtain ⟨q1, q2⟩ := L.bd n (List.mem_cons_of_mem _ h)
    exact ⟨stay _ q1 (h2 n (List.mem_map.mpr ⟨_, h, rfl⟩)), q2⟩
  · have hne : n ≠ a.n := fun z => hn (by rw [← z]; exact h)
    rcases L.nu1 n h with ⟨t, q1, q2⟩ | q1
    · exact .inl ⟨t, stay _ q1 hne, q2⟩
    · exact .inr (stay _ q1 hne)
  · refine L.nu2 n t ?_ ht
    rw [e]
    have h : (⟨n, 2, some t⟩ : Fy) ∈ A ++ B := h
    simp only [List.mem_append, List.mem_cons] at h ⊢
    rcases h with h | h
    · exact .inl h
    · exact .inr (.inr h)
  · rw [L.fl c hc, e]
    exact und_known (hd c)
theorem Li.split {a : An} (L : Li g nu th (a :: bk) d sd) : ∃ A x B, g.flies = A ++ x :: B ∧ x.n = a.n ∧ (∀ f ∈ A, f.n ≠ a.n) ∧ ∀ f ∈ B, f.n ≠ a.n := by
  refine nd_split L.inv.nd ?_
  have : a.n ∈ thI th ++ bkI (a :: bk) := List.mem_append_right _ (by unfold bkI; simp)
  exact L.pm.mem_iff.mp this
theorem Li.got {n : Int} (L : Li g nu th (.got n :: bk) d sd) : ∃ fs : List Fy, (g.gone n 1).2 = fs.map sayF ∧ (∀ f ∈ fs, ∃ t, f.t = some t ∧ f.g = t.g) ∧ Li (g.gone n 1).1 nu (th ++ fs.map newP) bk d sd := by
  obtain ⟨A, x, B, e, hx, hA, hB⟩ := L.split
  obtain ⟨t, q1, q2⟩ := L.bg n List.mem_cons_self
  have ex : x = ⟨n, 1, some t⟩ := fly_eq L.inv (by rw [e]; simp) q1 hx
  have hg : t.g = 1 := by
    rcases L.inv.fg _ q1 with ⟨h, _⟩ | ⟨u, h1, h2, _⟩
    · simp at h
    · simp only [Option.some.injEq] at h1 h2
      rw [h1]; exact h2
  rw [gone_split (n := n) e hA hB hx, if_pos (by rw [ex])]
  have L2 := L.cut e hx (fun c u h => by
    rw [ex] at h
    unfold Fy.td at h
    simp only at h
    split at h
    · rename_i hc
      cases h
      rw [← hc, hg]; exact q2
    · cases h) (fun z => by
    rcases L.nu1 n z with ⟨u, r1, _⟩ | r1
    · have := fly_eq L.inv q1 r1 rfl; simp at this
    · have := fly_eq L.inv q1 r1 rfl; simp at this)
  exact L2.pump
theorem Li.done {n : Int} (L : Li g nu th (.done n :: bk) d sd) : ∃ fs : List Fy, (g.gone n 3).2 = fs.map sayF ∧ (∀ f ∈ fs, ∃ t, f.t = some t ∧ f.g = t.g) ∧ Li (g.gone n 3).1 nu (th ++ fs.map newP) bk d sd := by
  obtain ⟨A, x, B, e, hx, hA, hB⟩ := L.split
  obtain ⟨q1, q2⟩ := L.bd n List.mem_cons_self
  have ex : x = ⟨n, 3, none⟩ := fly_eq L.inv (by rw [e]; simp) q1 hx
  rw [gone_split (n := n) e hA hB hx, if_pos (by rw [ex])]
  have L2 := L.cut e hx (fun c u h => by rw [ex] at h; cases h) q2
  exact L2.pump
theorem Li.held {n : Int} (L : Li g nu th (.held n :: bk) d sd) : (g.held n).2 = [freeD n] ∧ (g.held n).1.waits = g.waits ∧ Li (g.held n).1 nu (th ++ [.f n]) bk d sd := by
  obtain ⟨A, x, B, e, hx, hA, hB⟩ := L.split
  obtain ⟨t, q1, q2⟩ := L.bh n List.mem_cons_self
  have ex : x = ⟨n, 2, some t⟩ := fly_eq L.inv (by rw [e]; simp) q1 hx
  have hg : t.g = 2 := by
    rcases L.inv.fg _ q1 with ⟨h, _⟩ | ⟨u, h1, h2, _⟩
    · simp at h
    · simp only [Option.some.injEq] at h1 h2
      rw [h1]; exact h2
  have hi := L.inv.held L.ok n
  obtain ⟨h1, h2⟩ := L.head_nd
  have hh : g.held n = ({ g with flies := A ++ ⟨n, 3, none⟩ :: B }, [freeD n]) := by rw [held_split (n := n) e hA hB hx, if_pos (by rw [ex])]
  rw [hh] at hi ⊢
  have stay : ∀ f ∈ g.flies, f.n ≠ n → f ∈ A ++ ⟨n, 3, none⟩ :: B := fun f hf hne => by
    rw [e] at hf
    simp only [List.mem_append, List.mem_cons] at hf ⊢
    rcases hf with hf | hf | hf
    · exact .inl hf
    · exact absurd (by rw [hf]; exact hx) hne
    · exact .inr (.inr hf)
  have mid : (⟨n, 3, none⟩ : Fy) ∈ A ++ ⟨n, 3, none⟩ :: B := by simp
  refine ⟨rfl, rfl, hi.2, hi.1, ?_, fun t ag m h => ?_, fun m h => ?_, fun m h => ?_, fun m h => ?_, fun m h => ?_, fun m h => ?_, fun m u h hu => ?_, fun c hc => ?_, fun c hc => ?_, L.nd⟩
  · have pm := L.pm
    have e1 : thI (th ++ [Pk.f n]) = thI th ++ [n] := by unfold thI; rw [List.filterMap_append]; rfl
    have e2 : ({ g with flies := A ++ ⟨n, 3, none⟩ :: B } : Gv).used = g.used := by unfold Gv.used; rw [e]; simp [ex]
    rw [e1, e2, List.append_assoc]
    exact pm
  · rcases List.mem_append.mp h with h | h
    · exact stay _ (L.ts t ag m h) (h1 m (thI_s h))
    · simp at h
  · rcases List.mem_append.mp h with h | h
    · exact stay _ (L.tf m h) (h1 m (thI_f h))
    · have : m = n := by simpa using h
      rw [this]; exact mid
  · obtain ⟨t, q1, q2⟩ := L.bg m (List.mem_cons_of_mem _ h)
    exact ⟨t, stay _ q1 (h2 m (List.mem_map.mpr ⟨_, h, rfl⟩)), q2⟩
  · obtain ⟨t, q1, q2⟩ := L.bh m (List.mem_cons_of_mem _ h)
    exact ⟨t, stay _ q1 (h2 m (List.mem_map.mpr ⟨_, h, rfl⟩)), q2⟩
  · obtain ⟨q1, q2⟩ := L.bd m (List.mem_cons_of_mem _ h)
    exact ⟨stay _ q1 (h2 m (List.mem_map.mpr ⟨_, h, rfl⟩)), q2⟩
  · by_cases hne : m = n
    · rw [hne]; exact .inr mid
    · rcases L.nu1 m h with ⟨t, q1, q2⟩ | q1
      · exact .inl ⟨t, stay _ q1 hne, q2⟩
      · exact .inr (stay _ q1 hne)
  · refine L.nu2 m u ?_ hu
    rw [e]
    have h : (⟨m, 2, some u⟩ : Fy) ∈ A ++ ⟨n, 3, none⟩ :: B := h
    simp only [List.mem_append, List.mem_cons] at h ⊢
    rcases h with h | h | h
    · exact .inl h
    · simp at h
    · exact .inr (.inr h)
  · have e1 : thS c (th ++ [Pk.f n]) = thS c th := by unfold thS; rw [List.filterMap_append]; simp [Pk.td]
    rw [e1]; exact L.eq c hc
  · have e1 : thS c (th ++ [Pk.f n]) = thS c th := by unfold thS; rw [List.filterMap_append]; simp [Pk.td]
    rw [e1, L.fl c hc, e]
    rw [und_known (x := x) fun u h => by
      rw [ex] at h
      unfold Fy.td at h
      simp only at h
      split at h
      · rename_i hc2
        cases h
        rw [← hc2, hg]; exact q2
      · cases h]
    rw [show flS c (A ++ ⟨n, 3, none⟩ :: B) = flS c (A ++ B) by rw [flS_app, flS_cons, flS_app]; rfl]
/-! ### a new line -/
def onceP (f : Fy) : Pk := match f.t with
  | some t => .s t true f.n
  | none => .f f.n
theorem Li.fresh (L : Li g nu th bk d sd) : Li g nu (g.flies.map onceP) [] d sd := by
  have e1 : thI (g.flies.map onceP) = g.used := by
    unfold Gv.used
    generalize g.flies = l
    induction l with
    | nil => rfl
    | cons f l ih =>
      unfold thI at ih ⊢
      have h : (onceP f).i = some f.n := by unfold onceP; cases f.t <;> rfl
      rw [List.map_cons, List.map_cons, List.filterMap_cons_some h, ih]
  have e2 : ∀ c, thS c (g.flies.map onceP) = flS c g.flies := fun c => by
    generalize g.flies = l
    induction l with
    | nil => rfl
    | cons f l ih =>
      unfold thS flS at ih ⊢
      have h : (onceP f).td c = f.td c := by unfold onceP Fy.td; cases f.t <;> rfl
      rw [List.map_cons, List.filterMap_cons, List.filterMap_cons, h, ih]
  refine ⟨L.ok, L.inv, by rw [e1]; exact (by rw [show bkI [] = [] from rfl, List.append_nil]), fun t ag n h => ?_, fun n h => ?_, (fun n h => nomatch h), (fun n h => nomatch h), (fun n h => nomatch h), L.nu1, L.nu2, fun c hc => ?_, fun c hc => by rw [e2], L.nd⟩
  · obtain ⟨f, hf, e⟩ := List.mem_map.mp h
    unfold onceP at e
    split at e
    · rename_i u hu
      simp only [Pk.s.injEq] at e
      obtain ⟨a1, a2, a3⟩ := e
      rcases L.inv.fg f hf with ⟨_, h2⟩ | ⟨v, h1, h2, _⟩
      · rw [hu] at h2; cases h2
      · have : f = ⟨n, t.g, some t⟩ := by
          cases f
          simp only at hu h1 h2 a3
          rw [hu] at h1
          have h1 : u = v := Option.some.inj h1
          rw [a3, hu, a1, ← h2, ← h1, a1]
        rw [← this]; exact hf
    · cases e
  · obtain ⟨f, hf, e⟩ := List.mem_map.mp h
    unfold onceP at e
    split at e
    · cases e
    · rename_i hu
      simp only [Pk.f.injEq] at e
      rcases L.inv.fg f hf with ⟨h1, _⟩ | ⟨v, h1, _⟩
      · have : f = ⟨n, 3, none⟩ := by
          cases f
          simp only at hu h1 e
          rw [e, hu, h1]
        rw [← this]; exact hf
      · rw [hu] at h1; cases h1
  · rw [e2, ← L.fl c hc]; exact L.eq c hc
theorem Li.start {w m : Int} (h : (1 ≤ w ∧ w ≤ 20) ∧ (w ≤ m ∧ m ≤ 65535)) : Li ⟨w, m, 0, [], []⟩ [] [] [] (fun _ => []) (fun _ => []) :=
  ⟨Gv.new_ok h, Gv.new_inv, List.Perm.refl _, (fun t ag n h => nomatch h), (fun n h => nomatch h), (fun n h => nomatch h), (fun n h => nomatch h), (fun n h => nomatch h), (fun n h => nomatch h), (fun n t h => nomatch h), fun c hc => rfl, fun c hc => rfl, fun c hc => List.nodup_nil⟩
/-! ### what is left to be carried -/
def Pk.w : Pk → Nat
  | .z _ => 1
  | .s t _ _ => if t.g = 2 then 4 else 2
  | .f _ => 2
def An.w : An → Nat
  | .got _ => 1
  | .held _ => 3
  | .done _ => 1
def tdw (t : Td) : Nat := if t.g = 2 then 4 else 2
def load (g : Gv) (th : List Pk) (bk : List An) : Nat := (g.waits.map tdw).sum + (th.map Pk.w).sum + (bk.map An.w).sum
theorem pump_load (g : Gv) : ∃ ts rest : List Td, g.waits = ts ++ rest ∧ g.pump.1.waits = rest ∧ ∀ fs : List Fy, g.pump.2 = fs.map sayF → (∀ f ∈ fs, ∃ t, f.t = some t ∧ f.g = t.g) → ((fs.map newP).map Pk.w).sum = (ts.map tdw).sum := by
  obtain ⟨ts, rest, fs0, h1, h2, h3, h4, h5, h6, h7, h8, h9⟩ := pump_split _ g rfl
  refine ⟨ts, rest, h1, h2, fun fs hf hg => ?_⟩
  rw [h4] at hf
  have e1 : ∀ {a b : List Fy}, (∀ f ∈ a, ∃ t, f.t = some t) → (∀ f ∈ b, ∃ t, f.t = some t) → a.map sayF = b.map sayF → a.map newP = b.map newP := fun {a} => by
    induction a with
    | nil => intro b _ _ h; cases b with
      | nil => rfl
      | cons y b => simp at h
    | cons x a ih => intro b ha hb h; cases b with
      | nil => simp at h
      | cons y b =>
        simp only [List.map_cons, List.cons.injEq] at h ⊢
        obtain ⟨t, ht⟩ := ha x List.mem_cons_self
        obtain ⟨u, hu⟩ := hb y List.mem_cons_self
        refine ⟨?_, ih (fun f hf => ha f (List.mem_cons_of_mem _ hf)) (fun f hf => hb f (List.mem_cons_of_mem _ hf)) h.2⟩
        have h1 := h.1
        unfold sayF sayD at h1
        rw [ht, hu] at h1
        simp only [Dt.tup.injEq, List.cons.injEq, Dt.int.injEq, and_true, true_and] at h1
        unfold newP
        rw [ht, hu]
        obtain ⟨b1, b2, b3, b4, b5⟩ := h1
        have : t = u := by cases t; cases u; simp only at b1 b2 b3 b4 ⊢; rw [b1, b2, b3, b4]
        rw [this, b5]
  have e2 := e1 (fun f hf => by obtain ⟨t, _, q, _⟩ := h6 f hf; exact ⟨t, q⟩) (fun f hf => by obtain ⟨t, q, _⟩ := hg f hf; exact ⟨t, q⟩) hf
  rw [← e2]
  clear e2 hf hg h1 h2 h3 h4 h6 h7 h8 h9
  induction fs0 generalizing ts with
  | nil =>
    cases ts with
    | nil => rfl
    | cons t ts => simp at h5
  | cons f fs0 ih =>
    cases ts with
    | nil => simp at h5
    | cons t ts =>
      simp only [List.map_cons, List.cons.injEq] at h5
      simp only [List.map_cons, List.sum_cons]
      rw [ih ts h5.2]
      have : (newP f).w = tdw t := by unfold newP; rw [h5.1]; rfl
      rw [this]
theorem load_pump {th : List Pk} {bk : List An} {g : Gv} {fs : List Fy} (h1 : g.pump.2 = fs.map sayF) (h2 : ∀ f ∈ fs, ∃ t, f.t = some t ∧ f.g = t.g) : load g.pump.1 (th ++ fs.map newP) bk = load g th bk := by
  obtain ⟨ts, rest, q1, q2, q3⟩ := pump_load g
  have := q3 fs h1 h2
  unfold load
  rw [q2, q1]
  simp only [List.map_append, List.sum_append] at this ⊢
  omega
end
end Tx
namespace Tx
open PySem L2 Pd
/-! ### takers -/
def TkA (i : Nat) (nu : List Int) : SP := Exi fun j => Sts [At i (.ins 1 [.obj j]), At j (.lst (nu.map .int))]
theorem own_tk {i : Nat} {nu : List Int} {R : List SP} {s : Sto} : Own (TkA i nu :: R) s ↔ ∃ j, Own (At i (.ins 1 [.obj j]) :: At j (.lst (nu.map .int)) :: R) s := by
  unfold TkA
  simp only [own_ex, own_sts]
  rfl
theorem tk_init {R : List SP} {s : Sto} (o : Own R s) : ∃ s', m_Taker_init [.obj s.length] (s ++ [.ins 1 []]) = .ok .non s' ∧ Own (TkA s.length [] :: R) s' := by
  have o1 := o.new (.ins 1 [])
  have o2 := o1.new (.lst [])
  have z := setFD_obj (i := 0) (y := .obj (s ++ [Mo.ins 1 []]).length) (own2 o2).get (by simp)
  have o3 := (own2 o2).set (.ins 1 [.obj (s ++ [Mo.ins 1 []]).length])
  refine ⟨_, ?_, own_tk.mpr ⟨_, o3⟩⟩
  have p0 : putI 0 (Dt.obj (s ++ [Mo.ins 1 []]).length) [] = [.obj (s ++ [Mo.ins 1 []]).length] := rfl
  rw [p0] at z
  unfold m_Taker_init b_Taker_init
  simp only [fnOf, ev_seq, ev_asg, sBnd_def, ev_op, ev_un, bnd_def, ev_call, evs_cons, evs_nil, ev_var, ev_c, ev_if, ev_next, ev_expr, ev_tru, ev_bl, ev_and, ev_or, ev_not, ev_yes, ev_andE, ev_orE, ev_notE, ev_ifE, ev_chain, ofB_some, ofO_some, ofO_none, truD_non, truD_bl, truD_int, truD_str, truD_tup, truD_lst, truD_lsk, ev_tup, ev_lst, ev_nwF, ev_nwM, ev_meth, ev_make, ev_fld, ev_setF, ev_bm1, asQ_tup, asQ_lst, asQ_lsk, asL_lst, asL_lsk, dLen_tup, dLen_lst, dLen_lsk, dLen_str, dIx_tup, dIx_lst, dIx_lsk, dIx_str, dAdd_int, dNeg_int, isN_def, notN_def, isNon_non, isNon_int, isNon_bl, isNon_str, isNon_tup, isNon_lst, isNon_obj, isNon_exc, dEq_int, dNe_int, dEq_str, dNe_str, dEq_bl, atI_zero, atI_one, atI_2, atI_3, atI_4, atI_5, atI_6, atI_7, atI_8, atI_9, atI_10, atI_11, atI_12, atI_m1, ev_gT, setAll_nil, setAll_cons, iOp_int, ev_gN, ev_ret, List.map_cons, List.map_nil, List.length_cons, List.length_nil, rep_zero, rep_succ, List.cons_append, List.nil_append, List.getElem?_cons_zero, List.getElem?_cons_succ, List.set_cons_zero, List.set_cons_succ, Nat.sub_self, Nat.reduceAdd, Nat.reduceSub, Option.map_some, Option.bind_some, if_true, Bool.not_true, Bool.not_false, Bool.false_eq_true, if_false, decide_true, z]
def An.d : An → Dt
  | .got n => .tup [.str (Str.ofString "got"), .int n]
  | .held n => .tup [.str (Str.ofString "held"), .int n]
  | .done n => .tup [.str (Str.ofString "done"), .int n]
theorem strFree : (Str.ofString "free" == Str.ofString "free") = true ∧ (Str.ofString "say" == Str.ofString "free") = false := by decide +kernel
theorem tk_free {i : Nat} {nu : List Int} {n : Int} {R : List SP} {s : Sto} (o : Own (TkA i nu :: R) s) :
    ∃ s', m_Taker_took [.obj i, (Pk.f n).d] s = .ok (.tup [.lst [(An.done n).d], .lst []]) s' ∧ Own (TkA i (nu.filter (· != n)) :: R) s' := by
  obtain ⟨j, o⟩ := own_tk.mp o
  have h1 := o.get
  have h2 := (own2 o).get
  have e1 := insD_obj h1
  have e2 := asQ_obj h2
  have e3 : lcGo (gN 3) (tBl (eOp dNe (eVar 3) (eOp dIx (eVar 1) (eC (.int 1))))) (eVar 3) (fun s' => asQ s' (.obj j) = some (nu.map .int)) (nu.map .int) [some (.obj i), some (.tup [.str (Str.ofString "free"), .int n]), none, none] s = .ok ((nu.filter (· != n)).map .int) s := by
    refine lc_filter (f := Dt.int) (g := Dt.int) (p := fun v => v != n) e2 fun v _ => ⟨_, rfl, ?_, fun _ => by simp only [fnOf, ev_seq, ev_asg, sBnd_def, ev_op, ev_un, bnd_def, ev_call, evs_cons, evs_nil, ev_var, ev_c, ev_if, ev_next, ev_expr, ev_tru, ev_bl, ev_and, ev_or, ev_not, ev_yes, ev_andE, ev_orE, ev_notE, ev_ifE, ev_chain, ofB_some, ofO_some, ofO_none, truD_non, truD_bl, truD_int, truD_str, truD_tup, truD_lst, truD_lsk, ev_tup, ev_lst, ev_nwF, ev_nwM, ev_meth, ev_make, ev_fld, ev_setF, ev_bm1, asQ_tup, asQ_lst, asQ_lsk, asL_lst, asL_lsk, dLen_tup, dLen_lst, dLen_lsk, dLen_str, dIx_tup, dIx_lst, dIx_lsk, dIx_str, dAdd_int, dNeg_int, isN_def, notN_def, isNon_non, isNon_int, isNon_bl, isNon_str, isNon_tup, isNon_lst, isNon_obj, isNon_exc, dEq_int, dNe_int, dEq_str, dNe_str, dEq_bl, atI_zero, atI_one, atI_2, atI_3, atI_4, atI_5, atI_6, atI_7, atI_8, atI_9, atI_10, atI_11, atI_12, atI_m1, ev_gT, setAll_nil, setAll_cons, iOp_int, ev_gN, ev_ret, List.map_cons, List.map_nil, List.length_cons, List.length_nil, rep_zero, rep_succ, List.cons_append, List.nil_append, List.getElem?_cons_zero, List.getElem?_cons_succ, List.set_cons_zero, List.set_cons_succ, Nat.sub_self, Nat.reduceAdd, Nat.reduceSub, Option.map_some, Option.bind_some, if_true, Bool.not_true, Bool.not_false, Bool.false_eq_true, if_false, decide_true, decide_false, Int.reduceBEq, Int.reduceEq, Int.reduceLT, Int.reduceLE, Int.reduceNeg, Int.reduceAdd, Int.reduceSub, Int.reduceMul, Int.reduceToNat, Nat.reduceLT, Nat.reduceLeDiff, beq_self_eq_true, reduceIte, eq_self, Int.reduceNe, Int.reduceBNe, not_true_eq_false, not_false_eq_true, true_and, and_true, true_or, or_true, false_or, or_false, and_false, false_and, decide_eq_true_eq, Bool.true_and, Bool.and_true, Bool.false_and, Bool.and_false, Bool.true_or, Bool.or_true, Bool.false_or, Bool.or_false]⟩
    simp only [fnOf, ev_seq, ev_asg, sBnd_def, ev_op, ev_un, bnd_def, ev_call, evs_cons, evs_nil, ev_var, ev_c, ev_if, ev_next, ev_expr, ev_tru, ev_bl, ev_and, ev_or, ev_not, ev_yes, ev_andE, ev_orE, ev_notE, ev_ifE, ev_chain, ofB_some, ofO_some, ofO_none, truD_non, truD_bl, truD_int, truD_str, truD_tup, truD_lst, truD_lsk, ev_tup, ev_lst, ev_nwF, ev_nwM, ev_meth, ev_make, ev_fld, ev_setF, ev_bm1, asQ_tup, asQ_lst, asQ_lsk, asL_lst, asL_lsk, dLen_tup, dLen_lst, dLen_lsk, dLen_str, dIx_tup, dIx_lst, dIx_lsk, dIx_str, dAdd_int, dNeg_int, isN_def, notN_def, isNon_non, isNon_int, isNon_bl, isNon_str, isNon_tup, isNon_lst, isNon_obj, isNon_exc, dEq_int, dNe_int, dEq_str, dNe_str, dEq_bl, atI_zero, atI_one, atI_2, atI_3, atI_4, atI_5, atI_6, atI_7, atI_8, atI_9, atI_10, atI_11, atI_12, atI_m1, ev_gT, setAll_nil, setAll_cons, iOp_int, ev_gN, ev_ret, List.map_cons, List.map_nil, List.length_cons, List.length_nil, rep_zero, rep_succ, List.cons_append, List.nil_append, List.getElem?_cons_zero, List.getElem?_cons_succ, List.set_cons_zero, List.set_cons_succ, Nat.sub_self, Nat.reduceAdd, Nat.reduceSub, Option.map_some, Option.bind_some, if_true, Bool.not_true, Bool.not_false, Bool.false_eq_true, if_false, decide_true, decide_false, Int.reduceBEq, Int.reduceEq, Int.reduceLT, Int.reduceLE, Int.reduceNeg, Int.reduceAdd, Int.reduceSub, Int.reduceMul, Int.reduceToNat, Nat.reduceLT, Nat.reduceLeDiff, beq_self_eq_true, reduceIte, eq_self, Int.reduceNe, Int.reduceBNe, not_true_eq_false, not_false_eq_true, true_and, and_true, true_or, or_true, false_or, or_false, and_false, false_and, decide_eq_true_eq, Bool.true_and, Bool.and_true, Bool.false_and, Bool.and_false, Bool.true_or, Bool.or_true, Bool.false_or, Bool.or_false]
    rfl
  have o1 := (own2 o).drop.new (.lst ((nu.filter (· != n)).map .int))
  have z := setFD_obj (i := 0) (y := .obj s.length) (own2 o1).get (by simp)
  have o2 := (own2 o1).set (.ins 1 [.obj s.length])
  refine ⟨_, ?_, own_tk.mpr ⟨_, o2⟩⟩
  have p0 : putI 0 (Dt.obj s.length) [.obj j] = [.obj s.length] := rfl
  rw [p0] at z
  unfold m_Taker_took b_Taker_took An.d Pk.d freeD
  simp only [fnOf, ev_seq, ev_asg, sBnd_def, ev_op, ev_un, bnd_def, ev_call, evs_cons, evs_nil, ev_var, ev_c, ev_if, ev_next, ev_expr, ev_tru, ev_bl, ev_and, ev_or, ev_not, ev_yes, ev_andE, ev_orE, ev_notE, ev_ifE, ev_chain, ofB_some, ofO_some, ofO_none, truD_non, truD_bl, truD_int, truD_str, truD_tup, truD_lst, truD_lsk, ev_tup, ev_lst, ev_nwF, ev_nwM, ev_meth, ev_make, ev_fld, ev_setF, ev_bm1, asQ_tup, asQ_lst, asQ_lsk, asL_lst, asL_lsk, dLen_tup, dLen_lst, dLen_lsk, dLen_str, dIx_tup, dIx_lst, dIx_lsk, dIx_str, dAdd_int, dNeg_int, isN_def, notN_def, isNon_non, isNon_int, isNon_bl, isNon_str, isNon_tup, isNon_lst, isNon_obj, isNon_exc, dEq_int, dNe_int, dEq_str, dNe_str, dEq_bl, atI_zero, atI_one, atI_2, atI_3, atI_4, atI_5, atI_6, atI_7, atI_8, atI_9, atI_10, atI_11, atI_12, atI_m1, ev_gT, setAll_nil, setAll_cons, iOp_int, ev_gN, ev_ret, List.map_cons, List.map_nil, List.length_cons, List.length_nil, rep_zero, rep_succ, List.cons_append, List.nil_append, List.getElem?_cons_zero, List.getElem?_cons_succ, List.set_cons_zero, List.set_cons_succ, Nat.sub_self, Nat.reduceAdd, Nat.reduceSub, Option.map_some, Option.bind_some, if_true, Bool.not_true, Bool.not_false, Bool.false_eq_true, if_false, decide_true, decide_false, Int.reduceBEq, Int.reduceEq, Int.reduceLT, Int.reduceLE, Int.reduceNeg, Int.reduceAdd, Int.reduceSub, Int.reduceMul, Int.reduceToNat, Nat.reduceLT, Nat.reduceLeDiff, beq_self_eq_true, reduceIte, eq_self, Int.reduceNe, Int.reduceBNe, not_true_eq_false, not_false_eq_true, true_and, and_true, true_or, or_true, false_or, or_false, and_false, false_and, decide_eq_true_eq, Bool.true_and, Bool.and_true, Bool.false_and, Bool.and_false, Bool.true_or, Bool.or_true, Bool.false_or, Bool.or_false, strFree.1, e1, e2, ev_lc, ev_iSeq, wipeD_nil, wipeD_cons, bndN, e3, z]
theorem dIn_oints {s : Sto} {j : Nat} {a : List Int} {x : Int} (h2 : s[j]? = some (.lst (a.map .int))) : dIn (.int x) (.obj j) s = .ok (.bl (a.contains x)) s := by
  have hf : (a.map Dt.int).all flatD = true := by simp [flatD]
  have he : ((a.map Dt.int).any fun e => feq e (.int x)) = a.contains x := by
    rw [List.any_map, Bool.eq_iff_iff, List.any_eq_true]
    simp [feq]
  simp only [dIn, inB, asQ_obj h2, hf, he]
  rfl
theorem pk_z {t : Td} : (Pk.z t).d = .tup [.str (Str.ofString "say"), t.nm, t.bd, .int t.g, t.kp, .bl false, .int 0] := rfl
theorem pk_s {t : Td} {ag : Bool} {n : Int} : (Pk.s t ag n).d = .tup [.str (Str.ofString "say"), t.nm, t.bd, .int t.g, t.kp, .bl ag, .int n] := rfl
theorem td_d {t : Td} : t.d = .tup [t.nm, t.bd, .int t.g, t.kp] := rfl
theorem an_got {n : Int} : (An.got n).d = .tup [.str (Str.ofString "got"), .int n] := rfl
theorem an_held {n : Int} : (An.held n).d = .tup [.str (Str.ofString "held"), .int n] := rfl
/-- a packet that says a tiding: what the taker answers and hands on -/
theorem tk_say0 {i : Nat} {nu : List Int} {t : Td} {R : List SP} {s : Sto} (h : t.g = 0) (o : Own (TkA i nu :: R) s) : m_Taker_took [.obj i, (Pk.z t).d] s = .ok (.tup [.lst [], .lst [t.d]]) s := by
  have c : cutD [Dt.str (Str.ofString "say"), t.nm, t.bd, .int 0, t.kp, .bl false, .int 0] (some 1) (some 5) = [t.nm, t.bd, .int 0, t.kp] := rfl
  rw [pk_z, td_d, h]
  unfold m_Taker_took b_Taker_took
  simp only [fnOf, ev_seq, ev_asg, sBnd_def, ev_op, ev_un, bnd_def, ev_call, evs_cons, evs_nil, ev_var, ev_c, ev_if, ev_next, ev_expr, ev_tru, ev_bl, ev_and, ev_or, ev_not, ev_yes, ev_andE, ev_orE, ev_notE, ev_ifE, ev_chain, ofB_some, ofO_some, ofO_none, truD_non, truD_bl, truD_int, truD_str, truD_tup, truD_lst, truD_lsk, ev_tup, ev_lst, ev_nwF, ev_nwM, ev_meth, ev_make, ev_fld, ev_setF, ev_bm1, asQ_tup, asQ_lst, asQ_lsk, asL_lst, asL_lsk, dLen_tup, dLen_lst, dLen_lsk, dLen_str, dIx_tup, dIx_lst, dIx_lsk, dIx_str, dAdd_int, dNeg_int, isN_def, notN_def, isNon_non, isNon_int, isNon_bl, isNon_str, isNon_tup, isNon_lst, isNon_obj, isNon_exc, dEq_int, dNe_int, dEq_str, dNe_str, dEq_bl, atI_zero, atI_one, atI_2, atI_3, atI_4, atI_5, atI_6, atI_7, atI_8, atI_9, atI_10, atI_11, atI_12, atI_m1, ev_gT, setAll_nil, setAll_cons, iOp_int, ev_gN, ev_ret, List.map_cons, List.map_nil, List.length_cons, List.length_nil, rep_zero, rep_succ, List.cons_append, List.nil_append, List.getElem?_cons_zero, List.getElem?_cons_succ, List.set_cons_zero, List.set_cons_succ, Nat.sub_self, Nat.reduceAdd, Nat.reduceSub, Option.map_some, Option.bind_some, if_true, Bool.not_true, Bool.not_false, Bool.false_eq_true, if_false, decide_true, decide_false, Int.reduceBEq, Int.reduceEq, Int.reduceLT, Int.reduceLE, Int.reduceNeg, Int.reduceAdd, Int.reduceSub, Int.reduceMul, Int.reduceToNat, Nat.reduceLT, Nat.reduceLeDiff, beq_self_eq_true, reduceIte, eq_self, Int.reduceNe, Int.reduceBNe, not_true_eq_false, not_false_eq_true, true_and, and_true, true_or, or_true, false_or, or_false, and_false, false_and, decide_eq_true_eq, Bool.true_and, Bool.and_true, Bool.false_and, Bool.and_false, Bool.true_or, Bool.or_true, Bool.false_or, Bool.or_false, strFree.2, ev_sl, evp_some, evp_none, dSl_tup, c]
theorem tk_say1 {i : Nat} {nu : List Int} {t : Td} {ag : Bool} {n : Int} {R : List SP} {s : Sto} (h : t.g = 1) (o : Own (TkA i nu :: R) s) : m_Taker_took [.obj i, (Pk.s t ag n).d] s = .ok (.tup [.lst [(An.got n).d], .lst [t.d]]) s := by
  have c : cutD [Dt.str (Str.ofString "say"), t.nm, t.bd, .int 1, t.kp, .bl ag, .int n] (some 1) (some 5) = [t.nm, t.bd, .int 1, t.kp] := rfl
  rw [pk_s, td_d, an_got, h]
  unfold m_Taker_took b_Taker_took
  simp only [fnOf, ev_seq, ev_asg, sBnd_def, ev_op, ev_un, bnd_def, ev_call, evs_cons, evs_nil, ev_var, ev_c, ev_if, ev_next, ev_expr, ev_tru, ev_bl, ev_and, ev_or, ev_not, ev_yes, ev_andE, ev_orE, ev_notE, ev_ifE, ev_chain, ofB_some, ofO_some, ofO_none, truD_non, truD_bl, truD_int, truD_str, truD_tup, truD_lst, truD_lsk, ev_tup, ev_lst, ev_nwF, ev_nwM, ev_meth, ev_make, ev_fld, ev_setF, ev_bm1, asQ_tup, asQ_lst, asQ_lsk, asL_lst, asL_lsk, dLen_tup, dLen_lst, dLen_lsk, dLen_str, dIx_tup, dIx_lst, dIx_lsk, dIx_str, dAdd_int, dNeg_int, isN_def, notN_def, isNon_non, isNon_int, isNon_bl, isNon_str, isNon_tup, isNon_lst, isNon_obj, isNon_exc, dEq_int, dNe_int, dEq_str, dNe_str, dEq_bl, atI_zero, atI_one, atI_2, atI_3, atI_4, atI_5, atI_6, atI_7, atI_8, atI_9, atI_10, atI_11, atI_12, atI_m1, ev_gT, setAll_nil, setAll_cons, iOp_int, ev_gN, ev_ret, List.map_cons, List.map_nil, List.length_cons, List.length_nil, rep_zero, rep_succ, List.cons_append, List.nil_append, List.getElem?_cons_zero, List.getElem?_cons_succ, List.set_cons_zero, List.set_cons_succ, Nat.sub_self, Nat.reduceAdd, Nat.reduceSub, Option.map_some, Option.bind_some, if_true, Bool.not_true, Bool.not_false, Bool.false_eq_true, if_false, decide_true, decide_false, Int.reduceBEq, Int.reduceEq, Int.reduceLT, Int.reduceLE, Int.reduceNeg, Int.reduceAdd, Int.reduceSub, Int.reduceMul, Int.reduceToNat, Nat.reduceLT, Nat.reduceLeDiff, beq_self_eq_true, reduceIte, eq_self, Int.reduceNe, Int.reduceBNe, not_true_eq_false, not_false_eq_true, true_and, and_true, true_or, or_true, false_or, or_false, and_false, false_and, decide_eq_true_eq, Bool.true_and, Bool.and_true, Bool.false_and, Bool.and_false, Bool.true_or, Bool.or_true, Bool.false_or, Bool.or_false, strFree.2, ev_sl, evp_some, evp_none, dSl_tup, c]
theorem tk_say2 {i : Nat} {nu : List Int} {t : Td} {ag : Bool} {n : Int} {R : List SP} {s : Sto} (h : t.g = 2) (hz : nu.length < 100000) (o : Own (TkA i nu :: R) s) :
    ∃ s', m_Taker_took [.obj i, (Pk.s t ag n).d] s = .ok (.tup [.lst [(An.held n).d], .lst (if n ∈ nu then [] else [t.d])]) s' ∧ Own (TkA i (if n ∈ nu then nu else nu ++ [n]) :: R) s' := by
  have c : cutD [Dt.str (Str.ofString "say"), t.nm, t.bd, .int 2, t.kp, .bl ag, .int n] (some 1) (some 5) = [t.nm, t.bd, .int 2, t.kp] := rfl
  obtain ⟨j, o1⟩ := own_tk.mp o
  have h2 := (own2 o1).get
  have e1 := insD_obj o1.get
  have e2 := isLst_obj h2
  have e3 := dApp_at (y := .int n) h2 (by rw [List.length_map]; omega)
  have e4 := dIn_oints (x := n) h2
  by_cases hn : n ∈ nu
  · rw [if_pos hn, if_pos hn]
    have hc : nu.contains n = true := by simpa using hn
    refine ⟨s, ?_, o⟩
    rw [pk_s, an_held, h]
    unfold m_Taker_took b_Taker_took
    simp only [fnOf, ev_seq, ev_asg, sBnd_def, ev_op, ev_un, bnd_def, ev_call, evs_cons, evs_nil, ev_var, ev_c, ev_if, ev_next, ev_expr, ev_tru, ev_bl, ev_and, ev_or, ev_not, ev_yes, ev_andE, ev_orE, ev_notE, ev_ifE, ev_chain, ofB_some, ofO_some, ofO_none, truD_non, truD_bl, truD_int, truD_str, truD_tup, truD_lst, truD_lsk, ev_tup, ev_lst, ev_nwF, ev_nwM, ev_meth, ev_make, ev_fld, ev_setF, ev_bm1, asQ_tup, asQ_lst, asQ_lsk, asL_lst, asL_lsk, dLen_tup, dLen_lst, dLen_lsk, dLen_str, dIx_tup, dIx_lst, dIx_lsk, dIx_str, dAdd_int, dNeg_int, isN_def, notN_def, isNon_non, isNon_int, isNon_bl, isNon_str, isNon_tup, isNon_lst, isNon_obj, isNon_exc, dEq_int, dNe_int, dEq_str, dNe_str, dEq_bl, atI_zero, atI_one, atI_2, atI_3, atI_4, atI_5, atI_6, atI_7, atI_8, atI_9, atI_10, atI_11, atI_12, atI_m1, ev_gT, setAll_nil, setAll_cons, iOp_int, ev_gN, ev_ret, List.map_cons, List.map_nil, List.length_cons, List.length_nil, rep_zero, rep_succ, List.cons_append, List.nil_append, List.getElem?_cons_zero, List.getElem?_cons_succ, List.set_cons_zero, List.set_cons_succ, Nat.sub_self, Nat.reduceAdd, Nat.reduceSub, Option.map_some, Option.bind_some, if_true, Bool.not_true, Bool.not_false, Bool.false_eq_true, if_false, decide_true, decide_false, Int.reduceBEq, Int.reduceEq, Int.reduceLT, Int.reduceLE, Int.reduceNeg, Int.reduceAdd, Int.reduceSub, Int.reduceMul, Int.reduceToNat, Nat.reduceLT, Nat.reduceLeDiff, beq_self_eq_true, reduceIte, eq_self, Int.reduceNe, Int.reduceBNe, not_true_eq_false, not_false_eq_true, true_and, and_true, true_or, or_true, false_or, or_false, and_false, false_and, decide_eq_true_eq, Bool.true_and, Bool.and_true, Bool.false_and, Bool.and_false, Bool.true_or, Bool.or_true, Bool.false_or, Bool.or_false, strFree.2, ev_sl, evp_some, evp_none, dSl_tup, c, e1, e4, hc]
  · rw [if_neg hn, if_neg hn]
    have hc : nu.contains n = false := by simpa using hn
    have o2 := (own2 o1).set (.lst (nu.map .int ++ [.int n]))
    have q : nu.map Dt.int ++ [.int n] = (nu ++ [n]).map .int := by simp
    rw [q] at o2 e3
    refine ⟨_, ?_, own_tk.mpr ⟨j, own2 o2⟩⟩
    rw [pk_s, an_held, td_d, h]
    unfold m_Taker_took b_Taker_took
    simp only [fnOf, ev_seq, ev_asg, sBnd_def, ev_op, ev_un, bnd_def, ev_call, evs_cons, evs_nil, ev_var, ev_c, ev_if, ev_next, ev_expr, ev_tru, ev_bl, ev_and, ev_or, ev_not, ev_yes, ev_andE, ev_orE, ev_notE, ev_ifE, ev_chain, ofB_some, ofO_some, ofO_none, truD_non, truD_bl, truD_int, truD_str, truD_tup, truD_lst, truD_lsk, ev_tup, ev_lst, ev_nwF, ev_nwM, ev_meth, ev_make, ev_fld, ev_setF, ev_bm1, asQ_tup, asQ_lst, asQ_lsk, asL_lst, asL_lsk, dLen_tup, dLen_lst, dLen_lsk, dLen_str, dIx_tup, dIx_lst, dIx_lsk, dIx_str, dAdd_int, dNeg_int, isN_def, notN_def, isNon_non, isNon_int, isNon_bl, isNon_str, isNon_tup, isNon_lst, isNon_obj, isNon_exc, dEq_int, dNe_int, dEq_str, dNe_str, dEq_bl, atI_zero, atI_one, atI_2, atI_3, atI_4, atI_5, atI_6, atI_7, atI_8, atI_9, atI_10, atI_11, atI_12, atI_m1, ev_gT, setAll_nil, setAll_cons, iOp_int, ev_gN, ev_ret, List.map_cons, List.map_nil, List.length_cons, List.length_nil, rep_zero, rep_succ, List.cons_append, List.nil_append, List.getElem?_cons_zero, List.getElem?_cons_succ, List.set_cons_zero, List.set_cons_succ, Nat.sub_self, Nat.reduceAdd, Nat.reduceSub, Option.map_some, Option.bind_some, if_true, Bool.not_true, Bool.not_false, Bool.false_eq_true, if_false, decide_true, decide_false, Int.reduceBEq, Int.reduceEq, Int.reduceLT, Int.reduceLE, Int.reduceNeg, Int.reduceAdd, Int.reduceSub, Int.reduceMul, Int.reduceToNat, Nat.reduceLT, Nat.reduceLeDiff, beq_self_eq_true, reduceIte, eq_self, Int.reduceNe, Int.reduceBNe, not_true_eq_false, not_false_eq_true, true_and, and_true, true_or, or_true, false_or, or_false, and_false, false_and, decide_eq_true_eq, Bool.true_and, Bool.and_true, Bool.false_and, Bool.and_false, Bool.true_or, Bool.or_true, Bool.false_or, Bool.or_false, strFree.2, ev_sl, evp_some, evp_none, dSl_tup, c, e1, e2, e3, e4, hc]
end Tx
namespace Tx
open PySem L2 Pd
/-! ### the law of a line -/
theorem firstsA {l : List Td} : ∀ k, k < l.length → l[k]?.isSome = true := fun k h => by rw [List.getElem?_eq_getElem h]; rfl
noncomputable def isNew (l : List Td) (k : Nat) : Bool := match l[k]? with
  | some t => decide (t ∉ l.take k)
  | none => false
def atT (l : List Td) (k : Nat) : Td := (l[k]?).getD ⟨.non, .non, 0, .non⟩
noncomputable def firsts (l : List Td) : List Td := ((List.range l.length).filter (isNew l)).map (atT l)
theorem firsts_app (l : List Td) (t : Td) : firsts (l ++ [t]) = if t ∈ l then firsts l else firsts l ++ [t] := by
  unfold firsts
  rw [List.length_append, List.length_singleton, List.range_succ, List.filter_append, List.map_append]
  have h1 : (List.range l.length).filter (isNew (l ++ [t])) = (List.range l.length).filter (isNew l) := by
    refine List.filter_congr fun k hk => ?_
    have hk : k < l.length := List.mem_range.mp hk
    unfold isNew
    rw [List.getElem?_append_left hk, List.take_append_of_le_length (by omega)]
  have h2 : ((List.range l.length).filter (isNew l)).map (atT (l ++ [t])) = ((List.range l.length).filter (isNew l)).map (atT l) := by
    refine List.map_congr_left fun k hk => ?_
    have hk : k < l.length := List.mem_range.mp (List.mem_filter.mp hk).1
    unfold atT
    rw [List.getElem?_append_left hk]
  have h3 : isNew (l ++ [t]) l.length = decide (t ∉ l) := by
    unfold isNew
    rw [List.getElem?_append_right (Nat.le_refl _), Nat.sub_self, List.take_left]
    rfl
  have h4 : atT (l ++ [t]) l.length = t := by
    unfold atT
    rw [List.getElem?_append_right (Nat.le_refl _), Nat.sub_self]
    rfl
  rw [h1, h2]
  by_cases h : t ∈ l
  · rw [if_pos h]
    simp [h3, h]
  · rw [if_neg h]
    simp [h3, h, h4]
theorem rev_ind {α : Type} {P : List α → Prop} (h0 : P []) (h1 : ∀ l a, P l → P (l ++ [a])) (l : List α) : P l := by
  have : ∀ r : List α, P r.reverse := fun r => by
    induction r with
    | nil => exact h0
    | cons a r ih => rw [List.reverse_cons]; exact h1 _ _ ih
  have h := this l.reverse
  rw [List.reverse_reverse] at h
  exact h
theorem mem_firsts {t : Td} (l : List Td) : t ∈ firsts l ↔ t ∈ l := by
  refine rev_ind (P := fun l => t ∈ firsts l ↔ t ∈ l) (by simp [firsts]) (fun l u ih => ?_) l
  rw [firsts_app]
  split
  · rename_i h
    rw [ih]
    constructor
    · exact fun z => by simp [z]
    · intro z
      rcases List.mem_append.mp z with z | z
      · exact z
      · rw [List.mem_singleton] at z; rw [z]; exact h
  · simp [ih]
theorem firsts_nd {l : List Td} (h : l.Nodup) : firsts l = l := by
  revert h
  refine rev_ind (P := fun l => l.Nodup → firsts l = l) (fun _ => rfl) (fun l u ih h => ?_) l
  have h2 := List.nodup_append.mp h
  rw [firsts_app, if_neg (fun z => h2.2.2 u z u (List.mem_singleton_self _) rfl), ih h2.1]
theorem filter_sub {l m : List Td} (h : l.Sublist m) (nd : m.Nodup) : m.filter (fun t => decide (t ∈ l)) = l := by
  induction h with
  | slnil => rfl
  | @cons l m a h ih =>
    rw [List.nodup_cons] at nd
    rw [List.filter_cons, if_neg (by simpa using fun z => nd.1 (h.subset z)), ih nd.2]
  | @cons_cons l m a h ih =>
    rw [List.nodup_cons] at nd
    rw [List.filter_cons, if_pos (by simp)]
    congr 1
    rw [← ih nd.2]
    refine List.filter_congr fun t ht => ?_
    have : t ≠ a := fun z => nd.1 (by rw [← z]; exact ht)
    rw [ih nd.2]
    simp [this]
/-! tidings as the law makes them -/
def Td.Sim (t : Td) : Prop := ∃ (n b : Str) (k : Bool), t = ⟨.str n, .str b, t.g, .bl k⟩
theorem sim_py {t : Td} (h : t.Sim) : ∃ (n b : Str) (k : Bool), t = ⟨.str n, .str b, t.g, .bl k⟩ ∧ toPy t.d = some (.tuple [.str n, .str b, .int t.g, .bool k]) := by
  obtain ⟨n, b, k, e⟩ := h
  refine ⟨n, b, k, e, ?_⟩
  rw [e]
  rfl
def Td.py (t : Td) : PyData := (toPy t.d).getD .none
theorem Td.Sim.to {t : Td} (h : t.Sim) : toPy t.d = some t.py := by
  obtain ⟨n, b, k, _, e⟩ := sim_py h
  unfold Td.py
  rw [e]; rfl
theorem sim_eqv {t u : Td} (ht : t.Sim) (hu : u.Sim) : PyData.eqv t.py u.py = decide (t = u) := by
  obtain ⟨n, b, k, e1, e2⟩ := sim_py ht
  obtain ⟨n', b', k', e3, e4⟩ := sim_py hu
  unfold Td.py
  rw [e2, e4]
  simp only [Option.getD_some, PyData.eqv, PyData.eqvAll, Bool.and_true]
  rw [Bool.eq_iff_iff, decide_eq_true_eq]
  simp only [Bool.and_eq_true, beq_iff_eq]
  constructor
  · rintro ⟨a1, a2, a3, a4⟩
    rw [e1, e3, a1, a2, a3, a4]
  · intro h
    rw [h] at e1
    rw [e1] at e3
    simp only [Td.mk.injEq, Dt.str.injEq, Dt.bl.injEq] at e3
    exact ⟨e3.1, e3.2.1, by rw [h], e3.2.2.2⟩
theorem sim_pys : ∀ {l : List Td}, (∀ t ∈ l, t.Sim) → toPys (l.map Td.d) = some (l.map Td.py)
  | [], _ => rfl
  | t :: l, h => by
    rw [List.map_cons, List.map_cons]
    simp only [toPys, (h t List.mem_cons_self).to, sim_pys fun u hu => h u (List.mem_cons_of_mem _ hu)]
theorem sim_depth {t : Td} (h : t.Sim) : t.py.depth = 1 := by
  obtain ⟨n, b, k, _, e⟩ := sim_py h
  unfold Td.py
  rw [e]
  simp [PyData.depth, PyData.depthAll]
theorem sim_depths : ∀ {l : List Td}, (∀ t ∈ l, t.Sim) → PyData.depthAll (l.map Td.py) ≤ 1
  | [], _ => by simp [PyData.depthAll]
  | t :: l, h => by
    have := sim_depths (l := l) fun u hu => h u (List.mem_cons_of_mem _ hu)
    have h1 := sim_depth (h t List.mem_cons_self)
    rw [List.map_cons]
    simp only [PyData.depthAll, h1]
    omega
theorem in_sim {t : Td} {l : List Td} {s : Sto} {y : Dt} (ht : t.Sim) (hl : ∀ u ∈ l, u.Sim) (hy : asQ s y = some (l.map Td.d)) (hp : toPyS s y = (toPys (l.map Td.d)).map .list) (hs : ∀ z, y ≠ .str z) : inB s t.d y = some (decide (t ∈ l)) := by
  have e1 : toPyS s y = some (.list (l.map Td.py)) := by rw [hp, sim_pys hl]; rfl
  have e2 : toPyS s t.d = some t.py := ht.to
  have e3 : t.py.depth ≤ 64 ∧ (PyData.list (l.map Td.py)).depth ≤ 64 := by
    have := sim_depth ht
    have := sim_depths hl
    simp only [PyData.depth]
    omega
  have e4 : ((l.map Td.py).any fun z => PyData.eqv z t.py) = decide (t ∈ l) := by
    rw [List.any_map, Bool.eq_iff_iff, List.any_eq_true, decide_eq_true_eq]
    constructor
    · rintro ⟨u, hu, h⟩
      have h : PyData.eqv u.py t.py = true := h
      rw [sim_eqv (hl u hu) ht, decide_eq_true_eq] at h
      rw [← h]; exact hu
    · intro h
      refine ⟨t, h, ?_⟩
      show PyData.eqv t.py t.py = true
      rw [sim_eqv ht ht]
      simp
  have hf : (flatD t.d && (l.map Td.d).all flatD) = false := by
    have : flatD t.d = false := rfl
    rw [this]; rfl
  cases y with
  | str z => exact absurd rfl (hs z)
  | _ => simp only [inB, hy, hf, Bool.false_eq_true, if_false, e1, e2, if_pos e3, e4]
/-! ### what holds of the line -/
def Pk.zt : Pk → Option Td
  | .z t => some t
  | _ => none
def thZ (l : List Pk) : List Td := l.filterMap Pk.zt
structure X32 (g : Gv) (nu : List Int) (th : List Pk) (bk : List An) (said came : List Td) (d : Int → List Td) : Prop where
  li : Li g nu th bk d (fun c => wS c said)
  d1 : d 1 = firsts (wS 1 came)
  d2 : d 2 = wS 2 came
  z : (wS 0 came ++ thZ th).Sublist (wS 0 said)
  zg : ∀ t, Pk.z t ∈ th → t.g = 0
  sub : ∀ t ∈ came, t ∈ said
  good : ∀ t ∈ said, t.Good
  nd : said.Nodup
  few : said.length ≤ 16
  full : g.waits ≠ [] → ¬ (g.flies.length : Int) < g.win
theorem wS_app {c : Int} {a b : List Td} : wS c (a ++ b) = wS c a ++ wS c b := List.filter_append ..
theorem wS_one {c : Int} {t : Td} : wS c [t] = if t.g = c then [t] else [] := by
  unfold wS
  by_cases h : t.g = c <;> simp [h]
theorem mem_wS {c : Int} {l : List Td} {t : Td} : t ∈ wS c l ↔ t ∈ l ∧ t.g = c := by simp [wS]
theorem X32.grade {g : Gv} {nu : List Int} {th : List Pk} {bk : List An} {said came : List Td} {d : Int → List Td} (x : X32 g nu th bk said came d) {t : Td} {ag : Bool} {n : Int} (h : Pk.s t ag n ∈ th) : (t.g = 1 ∨ t.g = 2) ∧ t ∈ said := by
  have h1 := x.li.ts t ag n h
  have hg : t.g = 1 ∨ t.g = 2 := by
    rcases x.li.inv.fg _ h1 with ⟨_, h2⟩ | ⟨u, _, _, h3⟩
    · cases h2
    · exact h3
  refine ⟨hg, ?_⟩
  have e := x.li.eq t.g hg
  have hm : t ∈ thS t.g th := List.mem_filterMap.mpr ⟨_, h, by unfold Pk.td; simp⟩
  have : t ∈ wS t.g said := by
    have e : wS t.g said = d t.g ++ und (d t.g) (thS t.g th) ++ wS t.g g.waits := e
    rw [e]
    by_cases hd : t ∈ d t.g
    · simp [hd]
    · have := mem_und.mpr ⟨hm, hd⟩
      simp [this]
  exact (mem_wS.mp this).1
theorem X32.len {g : Gv} {nu : List Int} {th : List Pk} {bk : List An} {said came : List Td} {d : Int → List Td} (x : X32 g nu th bk said came d) : th.length + bk.length ≤ 36 + 65535 := by
  have h1 : th.length = (thI th).length + (thZ th).length := by
    clear x
    induction th with
    | nil => rfl
    | cons p th ih =>
      unfold thI thZ at ih ⊢
      rw [List.filterMap_cons, List.filterMap_cons, List.length_cons, ih]
      cases p <;> simp [Pk.i, Pk.zt] <;> omega
  have h2 := x.li.pm.length_eq
  rw [List.length_append] at h2
  have h3 : (bkI bk).length = bk.length := by unfold bkI; rw [List.length_map]
  have h4 := x.z.length_le
  rw [List.length_append] at h4
  have h5 : (wS 0 said).length ≤ said.length := List.length_filter_le ..
  have h6 := x.few
  have h7 : g.used.length ≤ 65535 := by
    unfold Gv.used
    rw [List.length_map]
    have := x.li.ok.few; have := x.li.ok.most; have := x.li.ok.top
    omega
  omega
theorem load_th {g : Gv} {p : Pk} {th : List Pk} {bk : List An} : load g (p :: th) bk = load g th bk + p.w := by unfold load; rw [List.map_cons, List.sum_cons]; omega
theorem load_bk {g : Gv} {a : An} {th : List Pk} {bk : List An} : load g th (a :: bk) = load g th bk + a.w := by unfold load; rw [List.map_cons, List.sum_cons]; omega
theorem load_bk' {g : Gv} {a : An} {th : List Pk} {bk : List An} : load g th (bk ++ [a]) = load g th bk + a.w := by unfold load; rw [List.map_append, List.sum_append]; simp only [List.map_cons, List.map_nil, List.sum_cons, List.sum_nil]; omega
theorem load_th' {g : Gv} {p : Pk} {th : List Pk} {bk : List An} : load g (th ++ [p]) bk = load g th bk + p.w := by unfold load; rw [List.map_append, List.sum_append]; simp only [List.map_cons, List.map_nil, List.sum_cons, List.sum_nil]; omega
theorem w_s {t : Td} {ag : Bool} {n : Int} : (Pk.s t ag n).w = if t.g = 2 then 4 else 2 := rfl
theorem w_o {t : Td} {n : Int} : (Pk.z t).w = 1 ∧ (Pk.f n).w = 2 ∧ (An.got n).w = 1 ∧ (An.held n).w = 3 ∧ (An.done n).w = 1 := ⟨rfl, rfl, rfl, rfl, rfl⟩
/-- a packet comes to the taker -/
theorem x_there {g : Gv} {nu : List Int} {p : Pk} {th : List Pk} {bk : List An} {said came : List Td} {d : Int → List Td} {k : Nat} {R : List SP} {s : Sto} (x : X32 g nu (p :: th) bk said came d) (hz : nu.length < 90000) (o : Own (TkA k nu :: R) s) :
    ∃ as ts nu' d' s', m_Taker_took [.obj k, p.d] s = .ok (.tup [.lst (as.map An.d), .lst (ts.map Td.d)]) s' ∧ Own (TkA k nu' :: R) s' ∧ X32 g nu' th (bk ++ as) said (came ++ ts) d' ∧ load g th (bk ++ as) + 1 = load g (p :: th) bk ∧ nu'.length ≤ nu.length + 1 ∧ ts.length ≤ 1 ∧ as.length ≤ 1 := by
  cases p with
  | z t =>
    have hg := x.zg t List.mem_cons_self
    have hz' := x.z
    have e : thZ (Pk.z t :: th) = t :: thZ th := rfl
    rw [e] at hz'
    refine ⟨[], [t], nu, d, s, tk_say0 hg o, o, ⟨?_, ?_, ?_, ?_, fun u hu => x.zg u (List.mem_cons_of_mem _ hu), ?_, x.good, x.nd, x.few, x.full⟩, ?_, by omega, by simp, by simp⟩
    · rw [List.append_nil]; exact x.li.tz
    · rw [wS_app, wS_one, if_neg (by omega), List.append_nil]; exact x.d1
    · rw [wS_app, wS_one, if_neg (by omega), List.append_nil]; exact x.d2
    · rw [wS_app, wS_one, if_pos hg, List.append_assoc]; exact hz'
    · intro u hu
      rcases List.mem_append.mp hu with hu | hu
      · exact x.sub u hu
      · rw [List.mem_singleton] at hu
        rw [hu]
        exact (mem_wS.mp (hz'.subset (by simp))).1
    · rw [List.append_nil, load_th]
      rfl
  | s t ag n =>
    obtain ⟨hg, hs⟩ := x.grade List.mem_cons_self
    have hz' : (wS 0 came ++ thZ th).Sublist (wS 0 said) := x.z
    have hsub : ∀ ts : List Td, (∀ u ∈ ts, u = t) → ∀ u ∈ came ++ ts, u ∈ said := fun ts h u hu => by
      rcases List.mem_append.mp hu with hu | hu
      · exact x.sub u hu
      · rw [h u hu]; exact hs
    rcases hg with hg | hg
    · refine ⟨[.got n], [t], nu, addD d t, s, tk_say1 hg o, o, ⟨x.li.t1 hg, ?_, ?_, ?_, fun u hu => x.zg u (List.mem_cons_of_mem _ hu), hsub [t] (fun u hu => by simpa using hu), x.good, x.nd, x.few, x.full⟩, ?_, by omega, by simp, by simp⟩
      · rw [wS_app, wS_one, if_pos hg, firsts_app]
        unfold addD
        rw [if_pos hg.symm, x.d1]
        by_cases h : t ∈ wS 1 came
        · rw [if_pos h, if_pos ((mem_firsts _).mpr h)]
        · rw [if_neg h, if_neg (fun z => h ((mem_firsts _).mp z))]
      · rw [wS_app, wS_one, if_neg (by omega), List.append_nil]
        unfold addD
        rw [if_neg (by omega)]
        exact x.d2
      · rw [wS_app, wS_one, if_neg (by omega), List.append_nil]; exact hz'
      · rw [load_bk', load_th, w_s, if_neg (by omega)]
        rfl
    · obtain ⟨s', h1, o1⟩ := tk_say2 (ag := ag) (n := n) hg (by omega) o
      have hk := x.li.known hg
      by_cases hn : n ∈ nu
      · rw [if_pos hn] at h1 o1
        have L := x.li.t2 hg
        rw [if_pos hn] at L
        have hd : addD d t = d := by
          funext c
          unfold addD
          split
          · rename_i hc
            rw [if_pos (by rw [hc, hg]; exact hk.mp hn)]
          · rfl
        rw [hd] at L
        refine ⟨[.held n], [], nu, d, s', h1, o1, ⟨L, by rw [List.append_nil]; exact x.d1, by rw [List.append_nil]; exact x.d2, by rw [List.append_nil]; exact hz', fun u hu => x.zg u (List.mem_cons_of_mem _ hu), by rw [List.append_nil]; exact x.sub, x.good, x.nd, x.few, x.full⟩, ?_, by omega, by simp, by simp⟩
        rw [load_bk', load_th, w_s, if_pos hg]
        rfl
      · rw [if_neg hn] at h1 o1
        have L := x.li.t2 hg
        rw [if_neg hn] at L
        refine ⟨[.held n], [t], nu ++ [n], addD d t, s', h1, o1, ⟨L, ?_, ?_, ?_, fun u hu => x.zg u (List.mem_cons_of_mem _ hu), hsub [t] (fun u hu => by simpa using hu), x.good, x.nd, x.few, x.full⟩, ?_, by simp, by simp, by simp⟩
        · rw [wS_app, wS_one, if_neg (by omega), List.append_nil]
          unfold addD
          rw [if_neg (by omega)]
          exact x.d1
        · rw [wS_app, wS_one, if_pos hg]
          unfold addD
          rw [if_pos hg.symm, if_neg (fun z => hn (hk.mpr z)), x.d2]
        · rw [wS_app, wS_one, if_neg (by omega), List.append_nil]; exact hz'
        · rw [load_bk', load_th, w_s, if_pos hg]
          rfl
  | f n =>
    obtain ⟨s', h1, o1⟩ := tk_free (n := n) o
    refine ⟨[.done n], [], nu.filter (· != n), d, s', h1, o1, ⟨x.li.tfree, by rw [List.append_nil]; exact x.d1, by rw [List.append_nil]; exact x.d2, by rw [List.append_nil]; exact x.z, fun u hu => x.zg u (List.mem_cons_of_mem _ hu), by rw [List.append_nil]; exact x.sub, x.good, x.nd, x.few, x.full⟩, ?_, ?_, by simp, by simp⟩
    · rw [load_bk', load_th]
      rfl
    · have := List.length_filter_le (· != n) nu
      omega
theorem newP_d {fs : List Fy} (h : ∀ f ∈ fs, ∃ t, f.t = some t ∧ f.g = t.g) : (fs.map newP).map Pk.d = fs.map sayF := by
  rw [List.map_map]
  refine List.map_congr_left fun f hf => ?_
  obtain ⟨t, e, _⟩ := h f hf
  simp only [Function.comp, newP, sayF, e]
  rfl
theorem thZ_new {th : List Pk} {new : List Pk} (h : ∀ p ∈ new, p.zt = none) : thZ (th ++ new) = thZ th := by
  unfold thZ
  rw [List.filterMap_append]
  have : new.filterMap Pk.zt = [] := List.filterMap_eq_nil_iff.mpr h
  rw [this, List.append_nil]
theorem newP_z {fs : List Fy} : ∀ p ∈ fs.map newP, p.zt = none := fun p hp => by
  obtain ⟨f, _, e⟩ := List.mem_map.mp hp
  rw [← e]
  unfold newP
  cases f.t <;> rfl
/-- the giver's end changed, with packets behind -/
theorem X32.giver {g g' : Gv} {nu : List Int} {th new : List Pk} {bk bk' : List An} {said came : List Td} {d : Int → List Td} (x : X32 g nu th bk said came d) (L : Li g' nu (th ++ new) bk' d (fun c => wS c said)) (hn : ∀ p ∈ new, p.zt = none) (hfull : g'.waits ≠ [] → ¬ (g'.flies.length : Int) < g'.win) : X32 g' nu (th ++ new) bk' said came d :=
  ⟨L, x.d1, x.d2, by rw [thZ_new hn]; exact x.z, fun t ht => by
    rcases List.mem_append.mp ht with ht | ht
    · exact x.zg t ht
    · exact absurd (hn _ ht) (by simp [Pk.zt]), x.sub, x.good, x.nd, x.few, hfull⟩
theorem pump_top (g : Gv) : g.pump.1.waits ≠ [] → ¬ (g.pump.1.flies.length : Int) < g.pump.1.win := by
  obtain ⟨ts, rest, fs0, h1, h2, h3, h4, h5, h6, h7, h8, h9⟩ := pump_split _ g rfl
  intro h
  rw [h8]
  exact h7 (by rw [← h2]; exact h)
theorem held_win (g : Gv) (n : Int) : (g.held n).1.win = g.win := by
  unfold Gv.held
  split <;> rfl
theorem x_back {g : Gv} {nu : List Int} {a : An} {th : List Pk} {bk : List An} {said came : List Td} {d : Int → List Td} {i : Nat} {R : List SP} {s : Sto} (x : X32 g nu th (a :: bk) said came d) (o : Own (GvA i g :: R) s) :
    ∃ r s' g' new, m_Giver_took [.obj i, a.d] s = .ok r s' ∧ Own (LsA r (new.map Pk.d) :: GvA i g' :: R) s' ∧ X32 g' nu (th ++ new) bk said came d ∧ load g' (th ++ new) bk + 1 = load g th (a :: bk) ∧ g'.win = g.win := by
  have hz : g.flies.length ≤ 65535 := by have := x.li.ok.few; have := x.li.ok.most; have := x.li.ok.top; omega
  have gone : ∀ (b : Bool) (n : Int), a = (if b then .got n else .done n) → ∃ r s' g' new, m_Giver_took [.obj i, a.d] s = .ok r s' ∧ Own (LsA r (new.map Pk.d) :: GvA i g' :: R) s' ∧ X32 g' nu (th ++ new) bk said came d ∧ load g' (th ++ new) bk + 1 = load g th (a :: bk) ∧ g'.win = g.win := fun b n ha => by
    obtain ⟨r, s', h1, h2, h3⟩ := ev_took_gone (n := n) (b := b) x.li.ok o
    obtain ⟨fs, q1, q2, L⟩ : ∃ fs : List Fy, (g.gone n (if b then 1 else 3)).2 = fs.map sayF ∧ (∀ f ∈ fs, ∃ t, f.t = some t ∧ f.g = t.g) ∧ Li (g.gone n (if b then 1 else 3)).1 nu (th ++ fs.map newP) bk d (fun c => wS c said) := by
      cases b with
      | true => simp only [if_true] at ha ⊢; subst ha; exact x.li.got
      | false => simp only [Bool.false_eq_true, if_false] at ha ⊢; subst ha; exact x.li.done
    have had : a.d = .tup [.str (if b then Str.ofString "got" else Str.ofString "done"), .int n] := by cases b <;> simp only [if_true, Bool.false_eq_true, if_false] at ha ⊢ <;> rw [ha] <;> rfl
    have hw : a.w = 1 := by cases b <;> simp only [if_true, Bool.false_eq_true, if_false] at ha <;> rw [ha] <;> rfl
    have hload : load (g.gone n (if b then 1 else 3)).1 (th ++ fs.map newP) bk = load g th bk ∧ (g.gone n (if b then 1 else 3)).1.win = g.win ∧ ((g.gone n (if b then 1 else 3)).1.waits ≠ [] → ¬ ((g.gone n (if b then 1 else 3)).1.flies.length : Int) < (g.gone n (if b then 1 else 3)).1.win) := by
      have han : a.n = n := by cases b <;> simp only [if_true, Bool.false_eq_true, if_false] at ha <;> rw [ha] <;> rfl
      obtain ⟨A, y, B, e, hy, hA, hB⟩ := x.li.split
      rw [han] at hy hA hB
      have hg := gone_split (gr := if b then 1 else 3) e hA hB hy
      have hyg : y.g = if b then 1 else 3 := by
        cases b with
        | true =>
          simp only [if_true] at ha ⊢
          subst ha
          obtain ⟨t, q1, _⟩ := x.li.bg n List.mem_cons_self
          rw [fly_eq x.li.inv (by rw [e]; simp) q1 hy]
        | false =>
          simp only [Bool.false_eq_true, if_false] at ha ⊢
          subst ha
          obtain ⟨q1, _⟩ := x.li.bd n List.mem_cons_self
          rw [fly_eq x.li.inv (by rw [e]; simp) q1 hy]
      rw [if_pos hyg] at hg
      rw [hg] at q1 ⊢
      have := load_pump (th := th) (bk := bk) q1 q2
      refine ⟨this, ?_, pump_top _⟩
      have hp := Gv.pump_inv _ _ rfl (x.li.ok.cutA e) (x.li.inv.cut e)
      exact hp.2.2.1
    rw [q1, ← newP_d q2] at h3
    refine ⟨r, s', _, fs.map newP, by rw [had]; exact h1, h3, x.giver L newP_z hload.2.2, ?_, hload.2.1⟩
    rw [hload.1, load_bk, hw]
  cases a with
  | got n => exact gone true n rfl
  | done n => exact gone false n rfl
  | held n =>
    obtain ⟨s', h1, o1⟩ := ev_took_held (n := n) hz o
    obtain ⟨e1, e2, L⟩ := x.li.held
    rw [e1] at h1
    refine ⟨_, s', (g.held n).1, [.f n], h1, own_ls.mpr (.inl ⟨rfl, o1⟩), x.giver L (fun p hp => by rw [List.mem_singleton] at hp; rw [hp]; rfl) (fun hw => by
      have h1 := x.full (by rw [← e2]; exact hw)
      have h2 : (g.held n).1.flies.length = g.flies.length := by unfold Gv.held; split <;> simp
      rw [h2, held_win]; exact h1), ?_, ?_⟩
    · rw [load_th', load_bk]
      have : load (g.held n).1 th bk = load g th bk := by unfold load; rw [e2]
      rw [this]
      rfl
    · exact (held_win g n)
theorem trkL_of {r : Dt} {l : List Dt} {L : List SP} {s : Sto} (o : Own (LsA r l :: L) s) : trkL s r = some l := Own.trk o
/-- one packet carried -/
theorem x_carry {g : Gv} {nu : List Int} {th : List Pk} {bk : List An} {said came : List Td} {d : Int → List Td} {i k b c f : Nat} {R : List SP} {s : Sto} (x : X32 g nu th bk said came d) (hz : nu.length < 90000) (hc : came.length < 90000)
    (o : Own (GvA i g :: TkA k nu :: At b (.lst (th.map Pk.d)) :: At c (.lst (bk.map An.d)) :: At f (.lst (came.map Td.d)) :: R) s) :
    ∃ g' nu' th' bk' came' d' s', m_law_carried [.obj i, .obj k, .obj b, .obj c, .obj f] s = .ok .non s' ∧ X32 g' nu' th' bk' said came' d' ∧ Own (GvA i g' :: TkA k nu' :: At b (.lst (th'.map Pk.d)) :: At c (.lst (bk'.map An.d)) :: At f (.lst (came'.map Td.d)) :: R) s' ∧
      load g' th' bk' ≤ load g th bk - 1 ∧ nu'.length ≤ nu.length + 1 ∧ came'.length ≤ came.length + 1 ∧ g'.win = g.win := by
  have hlen := x.len
  have et := truD_at (own3 o).get
  have eb := truD_at (own4 o).get
  cases th with
  | cons p th =>
    have h1 := (own3 o).get
    rw [List.map_cons] at h1 et
    have e1 := isLst_obj h1
    have e2 := dPop0_obj h1
    have o1 := (own3 o).set (.lst (th.map Pk.d))
    have o1' : Own (TkA k nu :: GvA i g :: At b (.lst (th.map Pk.d)) :: At c (.lst (bk.map An.d)) :: At f (.lst (came.map Td.d)) :: R) (s.set b (.lst (th.map Pk.d))) := o1.ix [2, 1, 0]
    obtain ⟨as, ts, nu', d', s2, h2, o2, x2, q1, q2, q3, q4⟩ := x_there x hz o1'
    obtain ⟨j, ok⟩ := own_tk.mp (own2 o)
    have ei := insD_obj ok.get
    have o3 := (own4 o2)
    have h3 := o3.get
    have e3 := isLst_obj h3
    simp only [List.length_cons] at hlen
    have e4 := dExt_obj (y := .lst (as.map An.d)) h3 trkL_lst (by simp only [List.length_map]; omega)
    rw [← List.map_append] at e4
    have o4 := o3.set (.lst ((bk ++ as).map An.d))
    have o5 := (own5 o4)
    have h5 := o5.get
    have e5 := isLst_obj h5
    have e6 := dExt_obj (y := .lst (ts.map Td.d)) h5 trkL_lst (by simp only [List.length_map]; omega)
    rw [← List.map_append] at e6
    have o6 := o5.set (.lst ((came ++ ts).map Td.d))
    refine ⟨g, nu', th, bk ++ as, came ++ ts, d', _, ?_, x2, o6.ix [3, 2, 4, 1, 0], by omega, q2, by simp only [List.length_append]; omega, rfl⟩
    have hf1 : (Pk.d p :: th.map Pk.d).isEmpty = false := rfl
    unfold m_law_carried b_law_carried u_law_carried_1
    simp only [fnOf, ev_seq, ev_asg, sBnd_def, ev_op, ev_un, bnd_def, ev_call, evs_cons, evs_nil, ev_var, ev_c, ev_if, ev_next, ev_expr, ev_tru, ev_bl, ev_and, ev_or, ev_not, ev_yes, ev_andE, ev_orE, ev_notE, ev_ifE, ev_chain, ofB_some, ofO_some, ofO_none, truD_non, truD_bl, truD_int, truD_str, truD_tup, truD_lst, truD_lsk, ev_tup, ev_lst, ev_nwF, ev_nwM, ev_meth, ev_make, ev_fld, ev_setF, ev_bm1, asQ_tup, asQ_lst, asQ_lsk, asL_lst, asL_lsk, dLen_tup, dLen_lst, dLen_lsk, dLen_str, dIx_tup, dIx_lst, dIx_lsk, dIx_str, dAdd_int, dNeg_int, isN_def, notN_def, isNon_non, isNon_int, isNon_bl, isNon_str, isNon_tup, isNon_lst, isNon_obj, isNon_exc, dEq_int, dNe_int, dEq_str, dNe_str, dEq_bl, atI_zero, atI_one, atI_2, atI_3, atI_4, atI_5, atI_6, atI_7, atI_8, atI_9, atI_10, atI_11, atI_12, atI_m1, ev_gT, setAll_nil, setAll_cons, iOp_int, ev_gN, ev_ret, List.map_cons, List.map_nil, List.length_cons, List.length_nil, rep_zero, rep_succ, List.cons_append, List.nil_append, List.getElem?_cons_zero, List.getElem?_cons_succ, List.set_cons_zero, List.set_cons_succ, Nat.sub_self, Nat.reduceAdd, Nat.reduceSub, Option.map_some, Option.bind_some, if_true, Bool.not_true, Bool.not_false, Bool.false_eq_true, if_false, decide_true, decide_false, Int.reduceBEq, Int.reduceEq, Int.reduceLT, Int.reduceLE, Int.reduceNeg, Int.reduceAdd, Int.reduceSub, Int.reduceMul, Int.reduceToNat, Nat.reduceLT, Nat.reduceLeDiff, beq_self_eq_true, reduceIte, eq_self, Int.reduceNe, Int.reduceBNe, not_true_eq_false, not_false_eq_true, true_and, and_true, true_or, or_true, false_or, or_false, and_false, false_and, decide_eq_true_eq, Bool.true_and, Bool.and_true, Bool.false_and, Bool.and_false, Bool.true_or, Bool.or_true, Bool.false_or, Bool.or_false, et, hf1, ei, e1, e2, h2, e3, e4, e5, e6]
  | nil =>
    rw [List.map_nil] at et
    cases bk with
    | cons a bk =>
      have h1 := (own4 o).get
      rw [List.map_cons] at h1 eb
      have e1 := isLst_obj h1
      have e2 := dPop0_obj h1
      have o1 := (own4 o).set (.lst (bk.map An.d))
      have o1' : Own (GvA i g :: TkA k nu :: At b (.lst []) :: At c (.lst (bk.map An.d)) :: At f (.lst (came.map Td.d)) :: R) (s.set c (.lst (bk.map An.d))) := o1.ix [1, 2, 3, 0]
      obtain ⟨r, s2, g', new, h2, o2, x2, q1, q2⟩ := x_back x o1'
      obtain ⟨wi, fi, ok⟩ := own_gv.mp o
      have ei := insD_obj ok.get
      have o3 := own4 o2
      have h3 := o3.get
      have e3 := trkL_of (own2 o3)
      have hlen2 := x2.len
      simp only [List.nil_append] at hlen2
      have e4 := dExt_obj (y := r) h3 e3 (by simp only [List.length_map, List.length_nil]; omega)
      rw [List.nil_append] at e4
      have o4 := o3.set (.lst (new.map Pk.d))
      have o5 : Own (GvA i g' :: TkA k nu :: At b (.lst (new.map Pk.d)) :: At c (.lst (bk.map An.d)) :: At f (.lst (came.map Td.d)) :: R) (s2.set b (.lst (new.map Pk.d))) := (own2 o4).drop.ix [1, 2, 0]
      rw [List.nil_append] at x2 q1
      refine ⟨g', nu, new, bk, came, d, _, ?_, x2, o5, by omega, by omega, by omega, q2⟩
      have hf1 : (An.d a :: bk.map An.d).isEmpty = false := rfl
      have e5 : isLst s (.obj b) = true := isLst_obj (own3 o).get
      unfold m_law_carried b_law_carried u_law_carried_1
      simp only [fnOf, ev_seq, ev_asg, sBnd_def, ev_op, ev_un, bnd_def, ev_call, evs_cons, evs_nil, ev_var, ev_c, ev_if, ev_next, ev_expr, ev_tru, ev_bl, ev_and, ev_or, ev_not, ev_yes, ev_andE, ev_orE, ev_notE, ev_ifE, ev_chain, ofB_some, ofO_some, ofO_none, truD_non, truD_bl, truD_int, truD_str, truD_tup, truD_lst, truD_lsk, ev_tup, ev_lst, ev_nwF, ev_nwM, ev_meth, ev_make, ev_fld, ev_setF, ev_bm1, asQ_tup, asQ_lst, asQ_lsk, asL_lst, asL_lsk, dLen_tup, dLen_lst, dLen_lsk, dLen_str, dIx_tup, dIx_lst, dIx_lsk, dIx_str, dAdd_int, dNeg_int, isN_def, notN_def, isNon_non, isNon_int, isNon_bl, isNon_str, isNon_tup, isNon_lst, isNon_obj, isNon_exc, dEq_int, dNe_int, dEq_str, dNe_str, dEq_bl, atI_zero, atI_one, atI_2, atI_3, atI_4, atI_5, atI_6, atI_7, atI_8, atI_9, atI_10, atI_11, atI_12, atI_m1, ev_gT, setAll_nil, setAll_cons, iOp_int, ev_gN, ev_ret, List.map_cons, List.map_nil, List.length_cons, List.length_nil, rep_zero, rep_succ, List.cons_append, List.nil_append, List.getElem?_cons_zero, List.getElem?_cons_succ, List.set_cons_zero, List.set_cons_succ, Nat.sub_self, Nat.reduceAdd, Nat.reduceSub, Option.map_some, Option.bind_some, if_true, Bool.not_true, Bool.not_false, Bool.false_eq_true, if_false, decide_true, decide_false, Int.reduceBEq, Int.reduceEq, Int.reduceLT, Int.reduceLE, Int.reduceNeg, Int.reduceAdd, Int.reduceSub, Int.reduceMul, Int.reduceToNat, Nat.reduceLT, Nat.reduceLeDiff, beq_self_eq_true, reduceIte, eq_self, Int.reduceNe, Int.reduceBNe, not_true_eq_false, not_false_eq_true, true_and, and_true, true_or, or_true, false_or, or_false, and_false, false_and, decide_eq_true_eq, Bool.true_and, Bool.and_true, Bool.false_and, Bool.and_false, Bool.true_or, Bool.or_true, Bool.false_or, Bool.or_false, et, eb, hf1, List.isEmpty_nil, e5, ei, e1, e2, h2, e4]
    | nil =>
      rw [List.map_nil] at eb
      refine ⟨g, nu, [], [], came, d, s, ?_, x, o, ?_, by omega, by omega, rfl⟩
      · unfold m_law_carried b_law_carried u_law_carried_1
        simp only [fnOf, ev_seq, ev_asg, sBnd_def, ev_op, ev_un, bnd_def, ev_call, evs_cons, evs_nil, ev_var, ev_c, ev_if, ev_next, ev_expr, ev_tru, ev_bl, ev_and, ev_or, ev_not, ev_yes, ev_andE, ev_orE, ev_notE, ev_ifE, ev_chain, ofB_some, ofO_some, ofO_none, truD_non, truD_bl, truD_int, truD_str, truD_tup, truD_lst, truD_lsk, ev_tup, ev_lst, ev_nwF, ev_nwM, ev_meth, ev_make, ev_fld, ev_setF, ev_bm1, asQ_tup, asQ_lst, asQ_lsk, asL_lst, asL_lsk, dLen_tup, dLen_lst, dLen_lsk, dLen_str, dIx_tup, dIx_lst, dIx_lsk, dIx_str, dAdd_int, dNeg_int, isN_def, notN_def, isNon_non, isNon_int, isNon_bl, isNon_str, isNon_tup, isNon_lst, isNon_obj, isNon_exc, dEq_int, dNe_int, dEq_str, dNe_str, dEq_bl, atI_zero, atI_one, atI_2, atI_3, atI_4, atI_5, atI_6, atI_7, atI_8, atI_9, atI_10, atI_11, atI_12, atI_m1, ev_gT, setAll_nil, setAll_cons, iOp_int, ev_gN, ev_ret, List.map_cons, List.map_nil, List.length_cons, List.length_nil, rep_zero, rep_succ, List.cons_append, List.nil_append, List.getElem?_cons_zero, List.getElem?_cons_succ, List.set_cons_zero, List.set_cons_succ, Nat.sub_self, Nat.reduceAdd, Nat.reduceSub, Option.map_some, Option.bind_some, if_true, Bool.not_true, Bool.not_false, Bool.false_eq_true, if_false, decide_true, decide_false, Int.reduceBEq, Int.reduceEq, Int.reduceLT, Int.reduceLE, Int.reduceNeg, Int.reduceAdd, Int.reduceSub, Int.reduceMul, Int.reduceToNat, Nat.reduceLT, Nat.reduceLeDiff, beq_self_eq_true, reduceIte, eq_self, Int.reduceNe, Int.reduceBNe, not_true_eq_false, not_false_eq_true, true_and, and_true, true_or, or_true, false_or, or_false, and_false, false_and, decide_eq_true_eq, Bool.true_and, Bool.and_true, Bool.false_and, Bool.and_false, Bool.true_or, Bool.or_true, Bool.false_or, Bool.or_false, et, eb, List.isEmpty_nil]
      · have hf : g.flies = [] := by
          have := x.li.pm.length_eq
          have h : g.used.length = 0 := by rw [← this]; rfl
          unfold Gv.used at h
          rw [List.length_map] at h
          exact List.eq_nil_of_length_eq_zero h
        have hw : g.waits = [] := Classical.byContradiction fun z => x.full z (by rw [hf]; have := x.li.ok.win; simp; omega)
        unfold load
        rw [hw]
        simp
end Tx
namespace Tx
open PySem L2 Pd
/-! ### whether what came is as is due -/
theorem Td.Good.sim {t : Td} (h : t.Good) : t.Sim := by
  obtain ⟨n, b, k, e, _⟩ := h
  exact ⟨mkS n, mkS b, k, e⟩
theorem td_grade {t : Td} {s : Sto} : dIx t.d (.int 2) s = .ok (.int t.g) s := rfl
theorem grade_lc {l : List Td} {i : Nat} {c : Int} {s : Sto} {env : En} {ok : Sto → Prop} (hok : ok s) (h2 : env[2]? = some (some (.int c))) (hl : 7 < env.length) : lcGo (gN 7) (tBl (eOp dEq (eOp dIx (eVar 7) (eC (.int 2))) (eVar 2))) (eVar 7) ok (l.map Td.d) env s = .ok ((wS c l).map Td.d) s := by
  refine lc_filter (f := Td.d) (g := Td.d) (p := fun t => decide (t.g = c)) hok fun t _ => ⟨env.set 7 (some t.d), rfl, ?_, fun _ => ?_⟩
  · have e7 : (env.set 7 (some t.d))[7]? = some (some t.d) := List.getElem?_set_self hl
    have e2 : (env.set 7 (some t.d))[2]? = some (some (.int c)) := by rw [List.getElem?_set_ne (by decide)]; exact h2
    simp only [ev_bl, ev_op, bnd_def, ev_var, e7, e2, ev_c, td_grade, dEq_int]
    rfl
  · have e7 : (env.set 7 (some t.d))[7]? = some (some t.d) := List.getElem?_set_self hl
    simp only [ev_var, e7]
theorem in_lst {t : Td} {l : List Td} {s : Sto} (ht : t.Sim) (hl : ∀ u ∈ l, u.Sim) : inB s t.d (.lst (l.map Td.d)) = some (decide (t ∈ l)) := in_sim ht hl rfl rfl (fun z h => by cases h)
theorem in_obj {t : Td} {l : List Td} {s : Sto} {i : Nat} (ht : t.Sim) (hl : ∀ u ∈ l, u.Sim) (hi : s[i]? = some (.lst (l.map Td.d))) : inB s t.d (.obj i) = some (decide (t ∈ l)) := in_sim ht hl (asQ_obj hi) (by simp only [toPyS, hi]) (fun z h => by cases h)
theorem firsts_lc {l : List Td} {s : Sto} {env : En} (hs : ∀ t ∈ l, t.Sim) (h4 : env[4]? = some (some (.lst (l.map Td.d)))) (hl : 8 < env.length) :
    lcGo (gN 8) (tBl (eOp dNotIn (eOp dIx (eVar 4) (eVar 8)) (eSl nwF (eVar 4) none (some (eVar 8))))) (eOp dIx (eVar 4) (eVar 8)) (fun _ => True) ((List.range l.length).map fun (k : Nat) => .int k) env s = .ok ((firsts l).map Td.d) s := by
  unfold firsts
  rw [List.map_map]
  refine lc_filter (f := fun (k : Nat) => Dt.int k) (g := Td.d ∘ atT l) (p := isNew l) trivial fun k hk => ⟨env.set 8 (some (.int k)), rfl, ?_, fun _ => ?_⟩
  · have hk : k < l.length := List.mem_range.mp hk
    have e8 : (env.set 8 (some (.int k)))[8]? = some (some (.int (k : Int))) := List.getElem?_set_self hl
    have e4 : (env.set 8 (some (.int k)))[4]? = some (some (.lst (l.map Td.d))) := by rw [List.getElem?_set_ne (by decide)]; exact h4
    have e5 : dIx (.lst (l.map Td.d)) (.int (k : Int)) s = .ok (l[k].d) s := by rw [dIx_lst, atI_ofNat, List.getElem?_map, List.getElem?_eq_getElem hk]; rfl
    have e6 : dSl nwF (.lst (l.map Td.d)) none (some (k : Int)) s = .ok (.lst ((l.take k).map Td.d)) s := by rw [dSl_lst, cut_take, List.map_take]; rfl
    have e7 : dNotIn l[k].d (.lst ((l.take k).map Td.d)) s = .ok (.bl (isNew l k)) s := by
      have hm : l[k] ∈ l := List.getElem_mem hk
      simp only [dNotIn, in_lst (hs _ hm) (fun u hu => hs u (List.mem_of_mem_take hu)), Option.map_some, ofO_some]
      unfold isNew
      rw [List.getElem?_eq_getElem hk]
      simp
    simp only [ev_bl, ev_op, bnd_def, ev_var, e8, e4, e5, ev_sl, evp_none, evp_some, e6, e7]
  · have hk : k < l.length := List.mem_range.mp hk
    have e8 : (env.set 8 (some (.int k)))[8]? = some (some (.int (k : Int))) := List.getElem?_set_self hl
    have e4 : (env.set 8 (some (.int k)))[4]? = some (some (.lst (l.map Td.d))) := by rw [List.getElem?_set_ne (by decide)]; exact h4
    have e5 : dIx (.lst (l.map Td.d)) (.int (k : Int)) s = .ok (l[k].d) s := by rw [dIx_lst, atI_ofNat, List.getElem?_map, List.getElem?_eq_getElem hk]; rfl
    have e6 : atT l k = l[k] := by unfold atT; rw [List.getElem?_eq_getElem hk]; rfl
    simp only [ev_op, bnd_def, ev_var, e8, e4, e5, Function.comp, e6]
theorem turned_lc {m l : List Td} {s : Sto} {env : En} {ok : Sto → Prop} (hok : ok s) (hm : ∀ t ∈ m, t.Sim) (hs : ∀ t ∈ l, t.Sim) (h4 : env[4]? = some (some (.lst (l.map Td.d)))) (hl : 7 < env.length) :
    lcGo (gN 7) (tBl (eOp dIn (eVar 7) (eVar 4))) (eVar 7) ok (m.map Td.d) env s = .ok ((m.filter fun t => decide (t ∈ l)).map Td.d) s := by
  refine lc_filter (f := Td.d) (g := Td.d) (p := fun t => decide (t ∈ l)) hok fun t ht => ⟨env.set 7 (some t.d), rfl, ?_, fun _ => ?_⟩
  · have e7 : (env.set 7 (some t.d))[7]? = some (some t.d) := List.getElem?_set_self hl
    have e4 : (env.set 7 (some t.d))[4]? = some (some (.lst (l.map Td.d))) := by rw [List.getElem?_set_ne (by decide)]; exact h4
    have e5 : dIn t.d (.lst (l.map Td.d)) s = .ok (.bl (decide (t ∈ l))) s := by simp only [dIn, in_lst (hm t ht) hs, Option.map_some, ofO_some]
    simp only [ev_bl, ev_op, bnd_def, ev_var, e7, e4, e5]
  · have e7 : (env.set 7 (some t.d))[7]? = some (some t.d) := List.getElem?_set_self hl
    simp only [ev_var, e7]
theorem dpt_td {t : Td} (h : t.Sim) : dpt t.d = some 1 := by
  obtain ⟨n, b, k, e⟩ := h
  rw [e]
  rfl
theorem ne_td {l : List Td} {s : Sto} (h : ∀ t ∈ l, t.Sim) : dNe (.lst (l.map Td.d)) (.lst (l.map Td.d)) s = .ok (.bl false) s :=
  (dNe_lst (n := 1) (fun d hd => by obtain ⟨t, ht, e⟩ := List.mem_map.mp hd; rw [← e]; exact dpt_td (h t ht)) (by decide)).2
theorem good_turn {e f : Nat} {said came : List Td} {s : Sto} {c : Nat} {x3 x4 x5 x6 x7 x8 : Option Dt} (hc : c < 3) (he : s[e]? = some (.lst (said.map Td.d))) (hf : s[f]? = some (.lst (came.map Td.d))) (hs : ∀ t ∈ said, t.Sim) (hcs : ∀ t ∈ came, t.Sim) (hz : came.length ≤ 1000000)
    (h2 : wS 2 came = wS 2 said) (h1 : firsts (wS 1 came) = wS 1 said) (h0 : (wS 0 came).Sublist (wS 0 said)) (nd : said.Nodup) :
    ∃ y3 y4 y5 y6, l_law_good_1 [some (.obj e), some (.obj f), some (.int c), x3, x4, x5, x6, x7, x8] s = .fl (.nx [some (.obj e), some (.obj f), some (.int c), y3, y4, y5, y6, x7, x8]) s := by
  have hw : ∀ (c : Int) (l : List Td), (∀ t ∈ l, t.Sim) → ∀ t ∈ wS c l, t.Sim := fun c l h t ht => h t (mem_wS.mp ht).1
  have f1 : w_law_good_1 [some (.obj e), some (.obj f), some (.int c), x3, x4, x5, x6, x7, x8] s = .fl (.nx [some (.obj e), some (.obj f), some (.int c), some (.lst ((wS c said).map Td.d)), x4, x5, x6, x7, x8]) s := by
    have z := grade_lc (l := said) (i := 0) (c := c) (s := s) (env := [some (.obj e), some (.obj f), some (.int c), x3, x4, x5, x6, none, x8]) (ok := fun s' => asQ s' (.obj e) = some (said.map Td.d)) (asQ_obj he) rfl (by simp)
    unfold w_law_good_1
    simp only [fnOf, ev_seq, ev_asg, sBnd_def, ev_op, ev_un, bnd_def, ev_call, evs_cons, evs_nil, ev_var, ev_c, ev_if, ev_next, ev_expr, ev_tru, ev_bl, ev_and, ev_or, ev_not, ev_yes, ev_andE, ev_orE, ev_notE, ev_ifE, ev_chain, ofB_some, ofO_some, ofO_none, truD_non, truD_bl, truD_int, truD_str, truD_tup, truD_lst, truD_lsk, ev_tup, ev_lst, ev_nwF, ev_nwM, ev_meth, ev_make, ev_fld, ev_setF, ev_bm1, asQ_tup, asQ_lst, asQ_lsk, asL_lst, asL_lsk, dLen_tup, dLen_lst, dLen_lsk, dLen_str, dIx_tup, dIx_lst, dIx_lsk, dIx_str, dAdd_int, dNeg_int, isN_def, notN_def, isNon_non, isNon_int, isNon_bl, isNon_str, isNon_tup, isNon_lst, isNon_obj, isNon_exc, dEq_int, dNe_int, dEq_str, dNe_str, dEq_bl, atI_zero, atI_one, atI_2, atI_3, atI_4, atI_5, atI_6, atI_7, atI_8, atI_9, atI_10, atI_11, atI_12, atI_m1, ev_gT, setAll_nil, setAll_cons, iOp_int, ev_gN, ev_ret, List.map_cons, List.map_nil, List.length_cons, List.length_nil, rep_zero, rep_succ, List.cons_append, List.nil_append, List.getElem?_cons_zero, List.getElem?_cons_succ, List.set_cons_zero, List.set_cons_succ, Nat.sub_self, Nat.reduceAdd, Nat.reduceSub, Option.map_some, Option.bind_some, if_true, Bool.not_true, Bool.not_false, Bool.false_eq_true, if_false, decide_true, decide_false, Int.reduceBEq, Int.reduceEq, Int.reduceLT, Int.reduceLE, Int.reduceNeg, Int.reduceAdd, Int.reduceSub, Int.reduceMul, Int.reduceToNat, Nat.reduceLT, Nat.reduceLeDiff, beq_self_eq_true, reduceIte, eq_self, Int.reduceNe, Int.reduceBNe, not_true_eq_false, not_false_eq_true, true_and, and_true, true_or, or_true, false_or, or_false, and_false, false_and, decide_eq_true_eq, Bool.true_and, Bool.and_true, Bool.false_and, Bool.and_false, Bool.true_or, Bool.or_true, Bool.false_or, Bool.or_false, ev_lc, ev_iSeq, wipeD_nil, wipeD_cons, bndN, asQ_obj he, z]
  have f2 : w_law_good_2 [some (.obj e), some (.obj f), some (.int c), some (.lst ((wS c said).map Td.d)), x4, x5, x6, x7, x8] s = .fl (.nx [some (.obj e), some (.obj f), some (.int c), some (.lst ((wS c said).map Td.d)), some (.lst ((wS c came).map Td.d)), x5, x6, x7, x8]) s := by
    have z := grade_lc (l := came) (i := 0) (c := c) (s := s) (env := [some (.obj e), some (.obj f), some (.int c), some (.lst ((wS c said).map Td.d)), x4, x5, x6, none, x8]) (ok := fun s' => asQ s' (.obj f) = some (came.map Td.d)) (asQ_obj hf) rfl (by simp)
    unfold w_law_good_2
    simp only [fnOf, ev_seq, ev_asg, sBnd_def, ev_op, ev_un, bnd_def, ev_call, evs_cons, evs_nil, ev_var, ev_c, ev_if, ev_next, ev_expr, ev_tru, ev_bl, ev_and, ev_or, ev_not, ev_yes, ev_andE, ev_orE, ev_notE, ev_ifE, ev_chain, ofB_some, ofO_some, ofO_none, truD_non, truD_bl, truD_int, truD_str, truD_tup, truD_lst, truD_lsk, ev_tup, ev_lst, ev_nwF, ev_nwM, ev_meth, ev_make, ev_fld, ev_setF, ev_bm1, asQ_tup, asQ_lst, asQ_lsk, asL_lst, asL_lsk, dLen_tup, dLen_lst, dLen_lsk, dLen_str, dIx_tup, dIx_lst, dIx_lsk, dIx_str, dAdd_int, dNeg_int, isN_def, notN_def, isNon_non, isNon_int, isNon_bl, isNon_str, isNon_tup, isNon_lst, isNon_obj, isNon_exc, dEq_int, dNe_int, dEq_str, dNe_str, dEq_bl, atI_zero, atI_one, atI_2, atI_3, atI_4, atI_5, atI_6, atI_7, atI_8, atI_9, atI_10, atI_11, atI_12, atI_m1, ev_gT, setAll_nil, setAll_cons, iOp_int, ev_gN, ev_ret, List.map_cons, List.map_nil, List.length_cons, List.length_nil, rep_zero, rep_succ, List.cons_append, List.nil_append, List.getElem?_cons_zero, List.getElem?_cons_succ, List.set_cons_zero, List.set_cons_succ, Nat.sub_self, Nat.reduceAdd, Nat.reduceSub, Option.map_some, Option.bind_some, if_true, Bool.not_true, Bool.not_false, Bool.false_eq_true, if_false, decide_true, decide_false, Int.reduceBEq, Int.reduceEq, Int.reduceLT, Int.reduceLE, Int.reduceNeg, Int.reduceAdd, Int.reduceSub, Int.reduceMul, Int.reduceToNat, Nat.reduceLT, Nat.reduceLeDiff, beq_self_eq_true, reduceIte, eq_self, Int.reduceNe, Int.reduceBNe, not_true_eq_false, not_false_eq_true, true_and, and_true, true_or, or_true, false_or, or_false, and_false, false_and, decide_eq_true_eq, Bool.true_and, Bool.and_true, Bool.false_and, Bool.and_false, Bool.true_or, Bool.or_true, Bool.false_or, Bool.or_false, ev_lc, ev_iSeq, wipeD_nil, wipeD_cons, bndN, asQ_obj hf, z]
  have f3 : w_law_good_3 [some (.obj e), some (.obj f), some (.int c), some (.lst ((wS c said).map Td.d)), some (.lst ((wS c came).map Td.d)), x5, x6, x7, x8] s = .fl (.nx [some (.obj e), some (.obj f), some (.int c), some (.lst ((wS c said).map Td.d)), some (.lst ((wS c came).map Td.d)), some (.lst ((firsts (wS c came)).map Td.d)), x6, x7, x8]) s := by
    have z := firsts_lc (l := wS c came) (s := s) (env := [some (.obj e), some (.obj f), some (.int c), some (.lst ((wS c said).map Td.d)), some (.lst ((wS c came).map Td.d)), x5, x6, x7, none]) (hw c came hcs) rfl (by simp)
    have hb : ((wS c came).length : Int) ≤ 16777216 ∧ -(2 ^ 62) ≤ ((wS c came).length : Int) := by
      have : (wS (c : Int) came).length ≤ came.length := List.length_filter_le ..
      omega
    unfold w_law_good_3
    simp only [fnOf, ev_seq, ev_asg, sBnd_def, ev_op, ev_un, bnd_def, ev_call, evs_cons, evs_nil, ev_var, ev_c, ev_if, ev_next, ev_expr, ev_tru, ev_bl, ev_and, ev_or, ev_not, ev_yes, ev_andE, ev_orE, ev_notE, ev_ifE, ev_chain, ofB_some, ofO_some, ofO_none, truD_non, truD_bl, truD_int, truD_str, truD_tup, truD_lst, truD_lsk, ev_tup, ev_lst, ev_nwF, ev_nwM, ev_meth, ev_make, ev_fld, ev_setF, ev_bm1, asQ_tup, asQ_lst, asQ_lsk, asL_lst, asL_lsk, dLen_tup, dLen_lst, dLen_lsk, dLen_str, dIx_tup, dIx_lst, dIx_lsk, dIx_str, dAdd_int, dNeg_int, isN_def, notN_def, isNon_non, isNon_int, isNon_bl, isNon_str, isNon_tup, isNon_lst, isNon_obj, isNon_exc, dEq_int, dNe_int, dEq_str, dNe_str, dEq_bl, atI_zero, atI_one, atI_2, atI_3, atI_4, atI_5, atI_6, atI_7, atI_8, atI_9, atI_10, atI_11, atI_12, atI_m1, ev_gT, setAll_nil, setAll_cons, iOp_int, ev_gN, ev_ret, List.map_cons, List.map_nil, List.length_cons, List.length_nil, rep_zero, rep_succ, List.cons_append, List.nil_append, List.getElem?_cons_zero, List.getElem?_cons_succ, List.set_cons_zero, List.set_cons_succ, Nat.sub_self, Nat.reduceAdd, Nat.reduceSub, Option.map_some, Option.bind_some, if_true, Bool.not_true, Bool.not_false, Bool.false_eq_true, if_false, decide_true, decide_false, Int.reduceBEq, Int.reduceEq, Int.reduceLT, Int.reduceLE, Int.reduceNeg, Int.reduceAdd, Int.reduceSub, Int.reduceMul, Int.reduceToNat, Nat.reduceLT, Nat.reduceLeDiff, beq_self_eq_true, reduceIte, eq_self, Int.reduceNe, Int.reduceBNe, not_true_eq_false, not_false_eq_true, true_and, and_true, true_or, or_true, false_or, or_false, and_false, false_and, decide_eq_true_eq, Bool.true_and, Bool.and_true, Bool.false_and, Bool.and_false, Bool.true_or, Bool.or_true, Bool.false_or, Bool.or_false, ev_lc, ev_iRange, wipeD_nil, wipeD_cons, bndN, List.length_map, hb, Int.toNat_natCast, z]
  have f4 : w_law_good_4 [some (.obj e), some (.obj f), some (.int c), some (.lst ((wS c said).map Td.d)), some (.lst ((wS c came).map Td.d)), some (.lst ((firsts (wS c came)).map Td.d)), x6, x7, x8] s = .fl (.nx [some (.obj e), some (.obj f), some (.int c), some (.lst ((wS c said).map Td.d)), some (.lst ((wS c came).map Td.d)), some (.lst ((firsts (wS c came)).map Td.d)), x6, x7, x8]) s := by
    have hc' : c = 0 ∨ c = 1 ∨ c = 2 := by omega
    unfold w_law_good_4
    rcases hc' with rfl | rfl | rfl
    · have a1 : (((0 : Nat) : Int) == 2) = false := rfl
      have a2 : (((0 : Nat) : Int) == 1) = false := rfl
      simp only [fnOf, ev_seq, ev_asg, sBnd_def, ev_op, ev_un, bnd_def, ev_call, evs_cons, evs_nil, ev_var, ev_c, ev_if, ev_next, ev_expr, ev_tru, ev_bl, ev_and, ev_or, ev_not, ev_yes, ev_andE, ev_orE, ev_notE, ev_ifE, ev_chain, ofB_some, ofO_some, ofO_none, truD_non, truD_bl, truD_int, truD_str, truD_tup, truD_lst, truD_lsk, ev_tup, ev_lst, ev_nwF, ev_nwM, ev_meth, ev_make, ev_fld, ev_setF, ev_bm1, asQ_tup, asQ_lst, asQ_lsk, asL_lst, asL_lsk, dLen_tup, dLen_lst, dLen_lsk, dLen_str, dIx_tup, dIx_lst, dIx_lsk, dIx_str, dAdd_int, dNeg_int, isN_def, notN_def, isNon_non, isNon_int, isNon_bl, isNon_str, isNon_tup, isNon_lst, isNon_obj, isNon_exc, dEq_int, dNe_int, dEq_str, dNe_str, dEq_bl, atI_zero, atI_one, atI_2, atI_3, atI_4, atI_5, atI_6, atI_7, atI_8, atI_9, atI_10, atI_11, atI_12, atI_m1, ev_gT, setAll_nil, setAll_cons, iOp_int, ev_gN, ev_ret, List.map_cons, List.map_nil, List.length_cons, List.length_nil, rep_zero, rep_succ, List.cons_append, List.nil_append, List.getElem?_cons_zero, List.getElem?_cons_succ, List.set_cons_zero, List.set_cons_succ, Nat.sub_self, Nat.reduceAdd, Nat.reduceSub, Option.map_some, Option.bind_some, if_true, Bool.not_true, Bool.not_false, Bool.false_eq_true, if_false, decide_true, decide_false, Int.reduceBEq, Int.reduceEq, Int.reduceLT, Int.reduceLE, Int.reduceNeg, Int.reduceAdd, Int.reduceSub, Int.reduceMul, Int.reduceToNat, Nat.reduceLT, Nat.reduceLeDiff, beq_self_eq_true, reduceIte, eq_self, Int.reduceNe, Int.reduceBNe, not_true_eq_false, not_false_eq_true, true_and, and_true, true_or, or_true, false_or, or_false, and_false, false_and, decide_eq_true_eq, Bool.true_and, Bool.and_true, Bool.false_and, Bool.and_false, Bool.true_or, Bool.or_true, Bool.false_or, Bool.or_false, a1, a2]
    · have a1 : (((1 : Nat) : Int) == 2) = false := rfl
      have a2 : (((1 : Nat) : Int) == 1) = true := rfl
      have a3 : dNe (.lst ((firsts (wS ((1 : Nat) : Int) came)).map Td.d)) (.lst ((wS ((1 : Nat) : Int) said).map Td.d)) s = .ok (.bl false) s := by
        have h1 : firsts (wS ((1 : Nat) : Int) came) = wS ((1 : Nat) : Int) said := h1
        rw [h1]; exact ne_td (hw _ said hs)
      simp only [fnOf, ev_seq, ev_asg, sBnd_def, ev_op, ev_un, bnd_def, ev_call, evs_cons, evs_nil, ev_var, ev_c, ev_if, ev_next, ev_expr, ev_tru, ev_bl, ev_and, ev_or, ev_not, ev_yes, ev_andE, ev_orE, ev_notE, ev_ifE, ev_chain, ofB_some, ofO_some, ofO_none, truD_non, truD_bl, truD_int, truD_str, truD_tup, truD_lst, truD_lsk, ev_tup, ev_lst, ev_nwF, ev_nwM, ev_meth, ev_make, ev_fld, ev_setF, ev_bm1, asQ_tup, asQ_lst, asQ_lsk, asL_lst, asL_lsk, dLen_tup, dLen_lst, dLen_lsk, dLen_str, dIx_tup, dIx_lst, dIx_lsk, dIx_str, dAdd_int, dNeg_int, isN_def, notN_def, isNon_non, isNon_int, isNon_bl, isNon_str, isNon_tup, isNon_lst, isNon_obj, isNon_exc, dEq_int, dNe_int, dEq_str, dNe_str, dEq_bl, atI_zero, atI_one, atI_2, atI_3, atI_4, atI_5, atI_6, atI_7, atI_8, atI_9, atI_10, atI_11, atI_12, atI_m1, ev_gT, setAll_nil, setAll_cons, iOp_int, ev_gN, ev_ret, List.map_cons, List.map_nil, List.length_cons, List.length_nil, rep_zero, rep_succ, List.cons_append, List.nil_append, List.getElem?_cons_zero, List.getElem?_cons_succ, List.set_cons_zero, List.set_cons_succ, Nat.sub_self, Nat.reduceAdd, Nat.reduceSub, Option.map_some, Option.bind_some, if_true, Bool.not_true, Bool.not_false, Bool.false_eq_true, if_false, decide_true, decide_false, Int.reduceBEq, Int.reduceEq, Int.reduceLT, Int.reduceLE, Int.reduceNeg, Int.reduceAdd, Int.reduceSub, Int.reduceMul, Int.reduceToNat, Nat.reduceLT, Nat.reduceLeDiff, beq_self_eq_true, reduceIte, eq_self, Int.reduceNe, Int.reduceBNe, not_true_eq_false, not_false_eq_true, true_and, and_true, true_or, or_true, false_or, or_false, and_false, false_and, decide_eq_true_eq, Bool.true_and, Bool.and_true, Bool.false_and, Bool.and_false, Bool.true_or, Bool.or_true, Bool.false_or, Bool.or_false, a1, a2, a3]
    · have a1 : (((2 : Nat) : Int) == 2) = true := rfl
      have a2 : (((2 : Nat) : Int) == 1) = false := rfl
      have a3 : dNe (.lst ((wS ((2 : Nat) : Int) came).map Td.d)) (.lst ((wS ((2 : Nat) : Int) said).map Td.d)) s = .ok (.bl false) s := by
        have h2 : wS ((2 : Nat) : Int) came = wS ((2 : Nat) : Int) said := h2
        rw [h2]; exact ne_td (hw _ said hs)
      simp only [fnOf, ev_seq, ev_asg, sBnd_def, ev_op, ev_un, bnd_def, ev_call, evs_cons, evs_nil, ev_var, ev_c, ev_if, ev_next, ev_expr, ev_tru, ev_bl, ev_and, ev_or, ev_not, ev_yes, ev_andE, ev_orE, ev_notE, ev_ifE, ev_chain, ofB_some, ofO_some, ofO_none, truD_non, truD_bl, truD_int, truD_str, truD_tup, truD_lst, truD_lsk, ev_tup, ev_lst, ev_nwF, ev_nwM, ev_meth, ev_make, ev_fld, ev_setF, ev_bm1, asQ_tup, asQ_lst, asQ_lsk, asL_lst, asL_lsk, dLen_tup, dLen_lst, dLen_lsk, dLen_str, dIx_tup, dIx_lst, dIx_lsk, dIx_str, dAdd_int, dNeg_int, isN_def, notN_def, isNon_non, isNon_int, isNon_bl, isNon_str, isNon_tup, isNon_lst, isNon_obj, isNon_exc, dEq_int, dNe_int, dEq_str, dNe_str, dEq_bl, atI_zero, atI_one, atI_2, atI_3, atI_4, atI_5, atI_6, atI_7, atI_8, atI_9, atI_10, atI_11, atI_12, atI_m1, ev_gT, setAll_nil, setAll_cons, iOp_int, ev_gN, ev_ret, List.map_cons, List.map_nil, List.length_cons, List.length_nil, rep_zero, rep_succ, List.cons_append, List.nil_append, List.getElem?_cons_zero, List.getElem?_cons_succ, List.set_cons_zero, List.set_cons_succ, Nat.sub_self, Nat.reduceAdd, Nat.reduceSub, Option.map_some, Option.bind_some, if_true, Bool.not_true, Bool.not_false, Bool.false_eq_true, if_false, decide_true, decide_false, Int.reduceBEq, Int.reduceEq, Int.reduceLT, Int.reduceLE, Int.reduceNeg, Int.reduceAdd, Int.reduceSub, Int.reduceMul, Int.reduceToNat, Nat.reduceLT, Nat.reduceLeDiff, beq_self_eq_true, reduceIte, eq_self, Int.reduceNe, Int.reduceBNe, not_true_eq_false, not_false_eq_true, true_and, and_true, true_or, or_true, false_or, or_false, and_false, false_and, decide_eq_true_eq, Bool.true_and, Bool.and_true, Bool.false_and, Bool.and_false, Bool.true_or, Bool.or_true, Bool.false_or, Bool.or_false, a1, a2, a3]
  have f5 : w_law_good_5 [some (.obj e), some (.obj f), some (.int c), some (.lst ((wS c said).map Td.d)), some (.lst ((wS c came).map Td.d)), some (.lst ((firsts (wS c came)).map Td.d)), x6, x7, x8] s = .fl (.nx [some (.obj e), some (.obj f), some (.int c), some (.lst ((wS c said).map Td.d)), some (.lst ((wS c came).map Td.d)), some (.lst ((firsts (wS c came)).map Td.d)), some (.lst (((wS c said).filter fun t => decide (t ∈ wS c came)).map Td.d)), x7, x8]) s := by
    have z := turned_lc (m := wS c said) (l := wS c came) (s := s) (env := [some (.obj e), some (.obj f), some (.int c), some (.lst ((wS c said).map Td.d)), some (.lst ((wS c came).map Td.d)), some (.lst ((firsts (wS c came)).map Td.d)), x6, none, x8]) (ok := fun _ => True) trivial (hw c said hs) (hw c came hcs) rfl (by simp)
    unfold w_law_good_5
    simp only [fnOf, ev_seq, ev_asg, sBnd_def, ev_op, ev_un, bnd_def, ev_call, evs_cons, evs_nil, ev_var, ev_c, ev_if, ev_next, ev_expr, ev_tru, ev_bl, ev_and, ev_or, ev_not, ev_yes, ev_andE, ev_orE, ev_notE, ev_ifE, ev_chain, ofB_some, ofO_some, ofO_none, truD_non, truD_bl, truD_int, truD_str, truD_tup, truD_lst, truD_lsk, ev_tup, ev_lst, ev_nwF, ev_nwM, ev_meth, ev_make, ev_fld, ev_setF, ev_bm1, asQ_tup, asQ_lst, asQ_lsk, asL_lst, asL_lsk, dLen_tup, dLen_lst, dLen_lsk, dLen_str, dIx_tup, dIx_lst, dIx_lsk, dIx_str, dAdd_int, dNeg_int, isN_def, notN_def, isNon_non, isNon_int, isNon_bl, isNon_str, isNon_tup, isNon_lst, isNon_obj, isNon_exc, dEq_int, dNe_int, dEq_str, dNe_str, dEq_bl, atI_zero, atI_one, atI_2, atI_3, atI_4, atI_5, atI_6, atI_7, atI_8, atI_9, atI_10, atI_11, atI_12, atI_m1, ev_gT, setAll_nil, setAll_cons, iOp_int, ev_gN, ev_ret, List.map_cons, List.map_nil, List.length_cons, List.length_nil, rep_zero, rep_succ, List.cons_append, List.nil_append, List.getElem?_cons_zero, List.getElem?_cons_succ, List.set_cons_zero, List.set_cons_succ, Nat.sub_self, Nat.reduceAdd, Nat.reduceSub, Option.map_some, Option.bind_some, if_true, Bool.not_true, Bool.not_false, Bool.false_eq_true, if_false, decide_true, decide_false, Int.reduceBEq, Int.reduceEq, Int.reduceLT, Int.reduceLE, Int.reduceNeg, Int.reduceAdd, Int.reduceSub, Int.reduceMul, Int.reduceToNat, Nat.reduceLT, Nat.reduceLeDiff, beq_self_eq_true, reduceIte, eq_self, Int.reduceNe, Int.reduceBNe, not_true_eq_false, not_false_eq_true, true_and, and_true, true_or, or_true, false_or, or_false, and_false, false_and, decide_eq_true_eq, Bool.true_and, Bool.and_true, Bool.false_and, Bool.and_false, Bool.true_or, Bool.or_true, Bool.false_or, Bool.or_false, ev_lc, ev_iSeq, wipeD_nil, wipeD_cons, bndN, z]
  have f6 : w_law_good_6 [some (.obj e), some (.obj f), some (.int c), some (.lst ((wS c said).map Td.d)), some (.lst ((wS c came).map Td.d)), some (.lst ((firsts (wS c came)).map Td.d)), some (.lst (((wS c said).filter fun t => decide (t ∈ wS c came)).map Td.d)), x7, x8] s = .fl (.nx [some (.obj e), some (.obj f), some (.int c), some (.lst ((wS c said).map Td.d)), some (.lst ((wS c came).map Td.d)), some (.lst ((firsts (wS c came)).map Td.d)), some (.lst (((wS c said).filter fun t => decide (t ∈ wS c came)).map Td.d)), x7, x8]) s := by
    have hc' : c = 0 ∨ c = 1 ∨ c = 2 := by omega
    unfold w_law_good_6
    rcases hc' with rfl | rfl | rfl
    · have a1 : (((0 : Nat) : Int) == 0) = true := rfl
      have ndw : (wS ((0 : Nat) : Int) said).Nodup := nd.sublist List.filter_sublist
      have h0 : (wS ((0 : Nat) : Int) came).Sublist (wS ((0 : Nat) : Int) said) := h0
      have a2 : firsts (wS ((0 : Nat) : Int) came) = wS ((0 : Nat) : Int) came := firsts_nd (ndw.sublist h0)
      have a3 : (wS ((0 : Nat) : Int) said).filter (fun t => decide (t ∈ wS ((0 : Nat) : Int) came)) = wS ((0 : Nat) : Int) came := filter_sub h0 ndw
      rw [a2, a3]
      have a4 := ne_td (s := s) (hw ((0 : Nat) : Int) came hcs)
      simp only [fnOf, ev_seq, ev_asg, sBnd_def, ev_op, ev_un, bnd_def, ev_call, evs_cons, evs_nil, ev_var, ev_c, ev_if, ev_next, ev_expr, ev_tru, ev_bl, ev_and, ev_or, ev_not, ev_yes, ev_andE, ev_orE, ev_notE, ev_ifE, ev_chain, ofB_some, ofO_some, ofO_none, truD_non, truD_bl, truD_int, truD_str, truD_tup, truD_lst, truD_lsk, ev_tup, ev_lst, ev_nwF, ev_nwM, ev_meth, ev_make, ev_fld, ev_setF, ev_bm1, asQ_tup, asQ_lst, asQ_lsk, asL_lst, asL_lsk, dLen_tup, dLen_lst, dLen_lsk, dLen_str, dIx_tup, dIx_lst, dIx_lsk, dIx_str, dAdd_int, dNeg_int, isN_def, notN_def, isNon_non, isNon_int, isNon_bl, isNon_str, isNon_tup, isNon_lst, isNon_obj, isNon_exc, dEq_int, dNe_int, dEq_str, dNe_str, dEq_bl, atI_zero, atI_one, atI_2, atI_3, atI_4, atI_5, atI_6, atI_7, atI_8, atI_9, atI_10, atI_11, atI_12, atI_m1, ev_gT, setAll_nil, setAll_cons, iOp_int, ev_gN, ev_ret, List.map_cons, List.map_nil, List.length_cons, List.length_nil, rep_zero, rep_succ, List.cons_append, List.nil_append, List.getElem?_cons_zero, List.getElem?_cons_succ, List.set_cons_zero, List.set_cons_succ, Nat.sub_self, Nat.reduceAdd, Nat.reduceSub, Option.map_some, Option.bind_some, if_true, Bool.not_true, Bool.not_false, Bool.false_eq_true, if_false, decide_true, decide_false, Int.reduceBEq, Int.reduceEq, Int.reduceLT, Int.reduceLE, Int.reduceNeg, Int.reduceAdd, Int.reduceSub, Int.reduceMul, Int.reduceToNat, Nat.reduceLT, Nat.reduceLeDiff, beq_self_eq_true, reduceIte, eq_self, Int.reduceNe, Int.reduceBNe, not_true_eq_false, not_false_eq_true, true_and, and_true, true_or, or_true, false_or, or_false, and_false, false_and, decide_eq_true_eq, Bool.true_and, Bool.and_true, Bool.false_and, Bool.and_false, Bool.true_or, Bool.or_true, Bool.false_or, Bool.or_false, a1, a4]
    · have a1 : (((1 : Nat) : Int) == 0) = false := rfl
      simp only [fnOf, ev_seq, ev_asg, sBnd_def, ev_op, ev_un, bnd_def, ev_call, evs_cons, evs_nil, ev_var, ev_c, ev_if, ev_next, ev_expr, ev_tru, ev_bl, ev_and, ev_or, ev_not, ev_yes, ev_andE, ev_orE, ev_notE, ev_ifE, ev_chain, ofB_some, ofO_some, ofO_none, truD_non, truD_bl, truD_int, truD_str, truD_tup, truD_lst, truD_lsk, ev_tup, ev_lst, ev_nwF, ev_nwM, ev_meth, ev_make, ev_fld, ev_setF, ev_bm1, asQ_tup, asQ_lst, asQ_lsk, asL_lst, asL_lsk, dLen_tup, dLen_lst, dLen_lsk, dLen_str, dIx_tup, dIx_lst, dIx_lsk, dIx_str, dAdd_int, dNeg_int, isN_def, notN_def, isNon_non, isNon_int, isNon_bl, isNon_str, isNon_tup, isNon_lst, isNon_obj, isNon_exc, dEq_int, dNe_int, dEq_str, dNe_str, dEq_bl, atI_zero, atI_one, atI_2, atI_3, atI_4, atI_5, atI_6, atI_7, atI_8, atI_9, atI_10, atI_11, atI_12, atI_m1, ev_gT, setAll_nil, setAll_cons, iOp_int, ev_gN, ev_ret, List.map_cons, List.map_nil, List.length_cons, List.length_nil, rep_zero, rep_succ, List.cons_append, List.nil_append, List.getElem?_cons_zero, List.getElem?_cons_succ, List.set_cons_zero, List.set_cons_succ, Nat.sub_self, Nat.reduceAdd, Nat.reduceSub, Option.map_some, Option.bind_some, if_true, Bool.not_true, Bool.not_false, Bool.false_eq_true, if_false, decide_true, decide_false, Int.reduceBEq, Int.reduceEq, Int.reduceLT, Int.reduceLE, Int.reduceNeg, Int.reduceAdd, Int.reduceSub, Int.reduceMul, Int.reduceToNat, Nat.reduceLT, Nat.reduceLeDiff, beq_self_eq_true, reduceIte, eq_self, Int.reduceNe, Int.reduceBNe, not_true_eq_false, not_false_eq_true, true_and, and_true, true_or, or_true, false_or, or_false, and_false, false_and, decide_eq_true_eq, Bool.true_and, Bool.and_true, Bool.false_and, Bool.and_false, Bool.true_or, Bool.or_true, Bool.false_or, Bool.or_false, a1]
    · have a1 : (((2 : Nat) : Int) == 0) = false := rfl
      simp only [fnOf, ev_seq, ev_asg, sBnd_def, ev_op, ev_un, bnd_def, ev_call, evs_cons, evs_nil, ev_var, ev_c, ev_if, ev_next, ev_expr, ev_tru, ev_bl, ev_and, ev_or, ev_not, ev_yes, ev_andE, ev_orE, ev_notE, ev_ifE, ev_chain, ofB_some, ofO_some, ofO_none, truD_non, truD_bl, truD_int, truD_str, truD_tup, truD_lst, truD_lsk, ev_tup, ev_lst, ev_nwF, ev_nwM, ev_meth, ev_make, ev_fld, ev_setF, ev_bm1, asQ_tup, asQ_lst, asQ_lsk, asL_lst, asL_lsk, dLen_tup, dLen_lst, dLen_lsk, dLen_str, dIx_tup, dIx_lst, dIx_lsk, dIx_str, dAdd_int, dNeg_int, isN_def, notN_def, isNon_non, isNon_int, isNon_bl, isNon_str, isNon_tup, isNon_lst, isNon_obj, isNon_exc, dEq_int, dNe_int, dEq_str, dNe_str, dEq_bl, atI_zero, atI_one, atI_2, atI_3, atI_4, atI_5, atI_6, atI_7, atI_8, atI_9, atI_10, atI_11, atI_12, atI_m1, ev_gT, setAll_nil, setAll_cons, iOp_int, ev_gN, ev_ret, List.map_cons, List.map_nil, List.length_cons, List.length_nil, rep_zero, rep_succ, List.cons_append, List.nil_append, List.getElem?_cons_zero, List.getElem?_cons_succ, List.set_cons_zero, List.set_cons_succ, Nat.sub_self, Nat.reduceAdd, Nat.reduceSub, Option.map_some, Option.bind_some, if_true, Bool.not_true, Bool.not_false, Bool.false_eq_true, if_false, decide_true, decide_false, Int.reduceBEq, Int.reduceEq, Int.reduceLT, Int.reduceLE, Int.reduceNeg, Int.reduceAdd, Int.reduceSub, Int.reduceMul, Int.reduceToNat, Nat.reduceLT, Nat.reduceLeDiff, beq_self_eq_true, reduceIte, eq_self, Int.reduceNe, Int.reduceBNe, not_true_eq_false, not_false_eq_true, true_and, and_true, true_or, or_true, false_or, or_false, and_false, false_and, decide_eq_true_eq, Bool.true_and, Bool.and_true, Bool.false_and, Bool.and_false, Bool.true_or, Bool.or_true, Bool.false_or, Bool.or_false, a1]
  refine ⟨some (.lst ((wS c said).map Td.d)), some (.lst ((wS c came).map Td.d)), some (.lst ((firsts (wS c came)).map Td.d)), some (.lst (((wS c said).filter fun t => decide (t ∈ wS c came)).map Td.d)), ?_⟩
  unfold l_law_good_1
  simp only [ev_seq, f1, f2, f3, f4, f5, f6]
theorem ev_good {e f : Nat} {said came : List Td} {s : Sto} (he : s[e]? = some (.lst (said.map Td.d))) (hf : s[f]? = some (.lst (came.map Td.d))) (hs : ∀ t ∈ said, t.Sim) (hsub : ∀ t ∈ came, t ∈ said) (hz : came.length ≤ 1000000)
    (h2 : wS 2 came = wS 2 said) (h1 : firsts (wS 1 came) = wS 1 said) (h0 : (wS 0 came).Sublist (wS 0 said)) (nd : said.Nodup) : m_law_good [.obj e, .obj f] s = .ok (.bl true) s := by
  have hcs : ∀ t ∈ came, t.Sim := fun t ht => hs t (hsub t ht)
  obtain ⟨env, s', hl, es, x2, x3, x4, x5, x6, x7, x8, ee⟩ := for_range_inv (tg := gN 2) (body := l_law_good_1) (fun k env s' => s' = s ∧ ∃ x2 x3 x4 x5 x6 x7 x8, env = [some (.obj e), some (.obj f), x2, x3, x4, x5, x6, x7, x8]) 3
    (env := [some (.obj e), some (.obj f), none, none, none, none, none, none, none]) (s := s) ⟨rfl, none, none, none, none, none, none, none, rfl⟩
    (fun k env s' hk ⟨es, x2, x3, x4, x5, x6, x7, x8, ee⟩ => by
      subst es; subst ee
      obtain ⟨y3, y4, y5, y6, hb⟩ := good_turn (x3 := x3) (x4 := x4) (x5 := x5) (x6 := x6) (x7 := x7) (x8 := x8) hk he hf hs hcs hz h2 h1 h0 nd
      exact ⟨[some (.obj e), some (.obj f), some (.int k), x3, x4, x5, x6, x7, x8], rfl, _, s', .inl hb, rfl, _, _, _, _, _, _, _, rfl⟩)
  subst es; subst ee
  have f1 : u_law_good_1 [some (.obj e), some (.obj f), none, none, none, none, none, none, none] s' = .fl (.nx [some (.obj e), some (.obj f), x2, x3, x4, x5, x6, x7, x8]) s' := by
    unfold u_law_good_1
    have z : ((3 : Int) ≤ 16777216 ∧ -(2 ^ 62) ≤ (3 : Int)) = True := by simp
    simp only [fnOf, ev_seq, ev_asg, sBnd_def, ev_op, ev_un, bnd_def, ev_call, evs_cons, evs_nil, ev_var, ev_c, ev_if, ev_next, ev_expr, ev_tru, ev_bl, ev_and, ev_or, ev_not, ev_yes, ev_andE, ev_orE, ev_notE, ev_ifE, ev_chain, ofB_some, ofO_some, ofO_none, truD_non, truD_bl, truD_int, truD_str, truD_tup, truD_lst, truD_lsk, ev_tup, ev_lst, ev_nwF, ev_nwM, ev_meth, ev_make, ev_fld, ev_setF, ev_bm1, asQ_tup, asQ_lst, asQ_lsk, asL_lst, asL_lsk, dLen_tup, dLen_lst, dLen_lsk, dLen_str, dIx_tup, dIx_lst, dIx_lsk, dIx_str, dAdd_int, dNeg_int, isN_def, notN_def, isNon_non, isNon_int, isNon_bl, isNon_str, isNon_tup, isNon_lst, isNon_obj, isNon_exc, dEq_int, dNe_int, dEq_str, dNe_str, dEq_bl, atI_zero, atI_one, atI_2, atI_3, atI_4, atI_5, atI_6, atI_7, atI_8, atI_9, atI_10, atI_11, atI_12, atI_m1, ev_gT, setAll_nil, setAll_cons, iOp_int, ev_gN, ev_ret, List.map_cons, List.map_nil, List.length_cons, List.length_nil, rep_zero, rep_succ, List.cons_append, List.nil_append, List.getElem?_cons_zero, List.getElem?_cons_succ, List.set_cons_zero, List.set_cons_succ, Nat.sub_self, Nat.reduceAdd, Nat.reduceSub, Option.map_some, Option.bind_some, if_true, Bool.not_true, Bool.not_false, Bool.false_eq_true, if_false, decide_true, ev_for, ev_iRange, z]
    exact hl
  have z : lcGo (gN 7) (tBl (eOp dIn (eVar 7) (eVar 0))) (eVar 7) (fun s'' => asQ s'' (.obj f) = some (came.map Td.d)) (came.map Td.d) [some (.obj e), some (.obj f), x2, x3, x4, x5, x6, none, x8] s' = .ok (came.map Td.d) s' := by
    have := lc_filter (tg := gN 7) (ft := tBl (eOp dIn (eVar 7) (eVar 0))) (fe := eVar 7) (ok := fun s'' => asQ s'' (.obj f) = some (came.map Td.d)) (env := [some (.obj e), some (.obj f), x2, x3, x4, x5, x6, none, x8]) (s := s') (f := Td.d) (g := Td.d) (p := fun t => decide (t ∈ said)) (asQ_obj hf) (l := came) fun t ht => ⟨_, rfl, by
      have e5 : dIn t.d (.obj e) s' = .ok (.bl (decide (t ∈ said))) s' := by simp only [dIn, in_obj (hcs t ht) hs he, Option.map_some, ofO_some]
      simp only [fnOf, ev_seq, ev_asg, sBnd_def, ev_op, ev_un, bnd_def, ev_call, evs_cons, evs_nil, ev_var, ev_c, ev_if, ev_next, ev_expr, ev_tru, ev_bl, ev_and, ev_or, ev_not, ev_yes, ev_andE, ev_orE, ev_notE, ev_ifE, ev_chain, ofB_some, ofO_some, ofO_none, truD_non, truD_bl, truD_int, truD_str, truD_tup, truD_lst, truD_lsk, ev_tup, ev_lst, ev_nwF, ev_nwM, ev_meth, ev_make, ev_fld, ev_setF, ev_bm1, asQ_tup, asQ_lst, asQ_lsk, asL_lst, asL_lsk, dLen_tup, dLen_lst, dLen_lsk, dLen_str, dIx_tup, dIx_lst, dIx_lsk, dIx_str, dAdd_int, dNeg_int, isN_def, notN_def, isNon_non, isNon_int, isNon_bl, isNon_str, isNon_tup, isNon_lst, isNon_obj, isNon_exc, dEq_int, dNe_int, dEq_str, dNe_str, dEq_bl, atI_zero, atI_one, atI_2, atI_3, atI_4, atI_5, atI_6, atI_7, atI_8, atI_9, atI_10, atI_11, atI_12, atI_m1, ev_gT, setAll_nil, setAll_cons, iOp_int, ev_gN, ev_ret, List.map_cons, List.map_nil, List.length_cons, List.length_nil, rep_zero, rep_succ, List.cons_append, List.nil_append, List.getElem?_cons_zero, List.getElem?_cons_succ, List.set_cons_zero, List.set_cons_succ, Nat.sub_self, Nat.reduceAdd, Nat.reduceSub, Option.map_some, Option.bind_some, if_true, Bool.not_true, Bool.not_false, Bool.false_eq_true, if_false, decide_true, decide_false, Int.reduceBEq, Int.reduceEq, Int.reduceLT, Int.reduceLE, Int.reduceNeg, Int.reduceAdd, Int.reduceSub, Int.reduceMul, Int.reduceToNat, Nat.reduceLT, Nat.reduceLeDiff, beq_self_eq_true, reduceIte, eq_self, Int.reduceNe, Int.reduceBNe, not_true_eq_false, not_false_eq_true, true_and, and_true, true_or, or_true, false_or, or_false, and_false, false_and, decide_eq_true_eq, Bool.true_and, Bool.and_true, Bool.false_and, Bool.and_false, Bool.true_or, Bool.or_true, Bool.false_or, Bool.or_false, e5], fun _ => by simp only [fnOf, ev_seq, ev_asg, sBnd_def, ev_op, ev_un, bnd_def, ev_call, evs_cons, evs_nil, ev_var, ev_c, ev_if, ev_next, ev_expr, ev_tru, ev_bl, ev_and, ev_or, ev_not, ev_yes, ev_andE, ev_orE, ev_notE, ev_ifE, ev_chain, ofB_some, ofO_some, ofO_none, truD_non, truD_bl, truD_int, truD_str, truD_tup, truD_lst, truD_lsk, ev_tup, ev_lst, ev_nwF, ev_nwM, ev_meth, ev_make, ev_fld, ev_setF, ev_bm1, asQ_tup, asQ_lst, asQ_lsk, asL_lst, asL_lsk, dLen_tup, dLen_lst, dLen_lsk, dLen_str, dIx_tup, dIx_lst, dIx_lsk, dIx_str, dAdd_int, dNeg_int, isN_def, notN_def, isNon_non, isNon_int, isNon_bl, isNon_str, isNon_tup, isNon_lst, isNon_obj, isNon_exc, dEq_int, dNe_int, dEq_str, dNe_str, dEq_bl, atI_zero, atI_one, atI_2, atI_3, atI_4, atI_5, atI_6, atI_7, atI_8, atI_9, atI_10, atI_11, atI_12, atI_m1, ev_gT, setAll_nil, setAll_cons, iOp_int, ev_gN, ev_ret, List.map_cons, List.map_nil, List.length_cons, List.length_nil, rep_zero, rep_succ, List.cons_append, List.nil_append, List.getElem?_cons_zero, List.getElem?_cons_succ, List.set_cons_zero, List.set_cons_succ, Nat.sub_self, Nat.reduceAdd, Nat.reduceSub, Option.map_some, Option.bind_some, if_true, Bool.not_true, Bool.not_false, Bool.false_eq_true, if_false, decide_true, decide_false, Int.reduceBEq, Int.reduceEq, Int.reduceLT, Int.reduceLE, Int.reduceNeg, Int.reduceAdd, Int.reduceSub, Int.reduceMul, Int.reduceToNat, Nat.reduceLT, Nat.reduceLeDiff, beq_self_eq_true, reduceIte, eq_self, Int.reduceNe, Int.reduceBNe, not_true_eq_false, not_false_eq_true, true_and, and_true, true_or, or_true, false_or, or_false, and_false, false_and, decide_eq_true_eq, Bool.true_and, Bool.and_true, Bool.false_and, Bool.and_false, Bool.true_or, Bool.or_true, Bool.false_or, Bool.or_false]⟩
    rw [List.filter_eq_self.mpr fun t ht => decide_eq_true (hsub t ht)] at this
    exact this
  have f2 : u_law_good_2 [some (.obj e), some (.obj f), x2, x3, x4, x5, x6, x7, x8] s' = .fl (.rt (.bl true)) s' := by
    unfold u_law_good_2
    simp only [fnOf, ev_seq, ev_asg, sBnd_def, ev_op, ev_un, bnd_def, ev_call, evs_cons, evs_nil, ev_var, ev_c, ev_if, ev_next, ev_expr, ev_tru, ev_bl, ev_and, ev_or, ev_not, ev_yes, ev_andE, ev_orE, ev_notE, ev_ifE, ev_chain, ofB_some, ofO_some, ofO_none, truD_non, truD_bl, truD_int, truD_str, truD_tup, truD_lst, truD_lsk, ev_tup, ev_lst, ev_nwF, ev_nwM, ev_meth, ev_make, ev_fld, ev_setF, ev_bm1, asQ_tup, asQ_lst, asQ_lsk, asL_lst, asL_lsk, dLen_tup, dLen_lst, dLen_lsk, dLen_str, dIx_tup, dIx_lst, dIx_lsk, dIx_str, dAdd_int, dNeg_int, isN_def, notN_def, isNon_non, isNon_int, isNon_bl, isNon_str, isNon_tup, isNon_lst, isNon_obj, isNon_exc, dEq_int, dNe_int, dEq_str, dNe_str, dEq_bl, atI_zero, atI_one, atI_2, atI_3, atI_4, atI_5, atI_6, atI_7, atI_8, atI_9, atI_10, atI_11, atI_12, atI_m1, ev_gT, setAll_nil, setAll_cons, iOp_int, ev_gN, ev_ret, List.map_cons, List.map_nil, List.length_cons, List.length_nil, rep_zero, rep_succ, List.cons_append, List.nil_append, List.getElem?_cons_zero, List.getElem?_cons_succ, List.set_cons_zero, List.set_cons_succ, Nat.sub_self, Nat.reduceAdd, Nat.reduceSub, Option.map_some, Option.bind_some, if_true, Bool.not_true, Bool.not_false, Bool.false_eq_true, if_false, decide_true, decide_false, Int.reduceBEq, Int.reduceEq, Int.reduceLT, Int.reduceLE, Int.reduceNeg, Int.reduceAdd, Int.reduceSub, Int.reduceMul, Int.reduceToNat, Nat.reduceLT, Nat.reduceLeDiff, beq_self_eq_true, reduceIte, eq_self, Int.reduceNe, Int.reduceBNe, not_true_eq_false, not_false_eq_true, true_and, and_true, true_or, or_true, false_or, or_false, and_false, false_and, decide_eq_true_eq, Bool.true_and, Bool.and_true, Bool.false_and, Bool.and_false, Bool.true_or, Bool.or_true, Bool.false_or, Bool.or_false, ev_lc, ev_iSeq, wipeD_nil, wipeD_cons, bndN, dLen_obj hf, asQ_obj hf, z, List.length_map]
  unfold m_law_good b_law_good
  simp only [fnOf, ev_seq, ev_asg, sBnd_def, ev_op, ev_un, bnd_def, ev_call, evs_cons, evs_nil, ev_var, ev_c, ev_if, ev_next, ev_expr, ev_tru, ev_bl, ev_and, ev_or, ev_not, ev_yes, ev_andE, ev_orE, ev_notE, ev_ifE, ev_chain, ofB_some, ofO_some, ofO_none, truD_non, truD_bl, truD_int, truD_str, truD_tup, truD_lst, truD_lsk, ev_tup, ev_lst, ev_nwF, ev_nwM, ev_meth, ev_make, ev_fld, ev_setF, ev_bm1, asQ_tup, asQ_lst, asQ_lsk, asL_lst, asL_lsk, dLen_tup, dLen_lst, dLen_lsk, dLen_str, dIx_tup, dIx_lst, dIx_lsk, dIx_str, dAdd_int, dNeg_int, isN_def, notN_def, isNon_non, isNon_int, isNon_bl, isNon_str, isNon_tup, isNon_lst, isNon_obj, isNon_exc, dEq_int, dNe_int, dEq_str, dNe_str, dEq_bl, atI_zero, atI_one, atI_2, atI_3, atI_4, atI_5, atI_6, atI_7, atI_8, atI_9, atI_10, atI_11, atI_12, atI_m1, ev_gT, setAll_nil, setAll_cons, iOp_int, ev_gN, ev_ret, List.map_cons, List.map_nil, List.length_cons, List.length_nil, rep_zero, rep_succ, List.cons_append, List.nil_append, List.getElem?_cons_zero, List.getElem?_cons_succ, List.set_cons_zero, List.set_cons_succ, Nat.sub_self, Nat.reduceAdd, Nat.reduceSub, Option.map_some, Option.bind_some, if_true, Bool.not_true, Bool.not_false, Bool.false_eq_true, if_false, decide_true, decide_false, Int.reduceBEq, Int.reduceEq, Int.reduceLT, Int.reduceLE, Int.reduceNeg, Int.reduceAdd, Int.reduceSub, Int.reduceMul, Int.reduceToNat, Nat.reduceLT, Nat.reduceLeDiff, beq_self_eq_true, reduceIte, eq_self, Int.reduceNe, Int.reduceBNe, not_true_eq_false, not_false_eq_true, true_and, and_true, true_or, or_true, false_or, or_false, and_false, false_and, decide_eq_true_eq, Bool.true_and, Bool.and_true, Bool.false_and, Bool.and_false, Bool.true_or, Bool.or_true, Bool.false_or, Bool.or_false, f1, f2]
end Tx
namespace Tx
open PySem L2 Pd
theorem Li.congr {g : Gv} {nu : List Int} {th : List Pk} {bk : List An} {d sd sd' : Int → List Td} (L : Li g nu th bk d sd) (h : ∀ c, c = 1 ∨ c = 2 → sd' c = sd c) : Li g nu th bk d sd' :=
  ⟨L.ok, L.inv, L.pm, L.ts, L.tf, L.bg, L.bh, L.bd, L.nu1, L.nu2, fun c hc => by rw [h c hc]; exact L.eq c hc, L.fl, fun c hc => by rw [h c hc]; exact L.nd c hc⟩
theorem Li.addZ {g : Gv} {nu : List Int} {th : List Pk} {bk : List An} {d sd : Int → List Td} {t : Td} (L : Li g nu th bk d sd) : Li g nu (th ++ [.z t]) bk d sd := by
  have e1 : thI (th ++ [Pk.z t]) = thI th := by unfold thI; rw [List.filterMap_append]; simp [Pk.i]
  have e2 : ∀ c, thS c (th ++ [Pk.z t]) = thS c th := fun c => by unfold thS; rw [List.filterMap_append]; simp [Pk.td]
  refine ⟨L.ok, L.inv, by rw [e1]; exact L.pm, fun u ag n h => ?_, fun n h => ?_, L.bg, L.bh, L.bd, L.nu1, L.nu2, fun c hc => by rw [e2]; exact L.eq c hc, fun c hc => by rw [e2]; exact L.fl c hc, L.nd⟩
  · rcases List.mem_append.mp h with h | h
    · exact L.ts u ag n h
    · simp at h
  · rcases List.mem_append.mp h with h | h
    · exact L.tf n h
    · simp at h
theorem len12 : ∀ {l : List Td}, (∀ t ∈ l, t.g = 1 ∨ t.g = 2) → l.length = (wS 1 l).length + (wS 2 l).length
  | [], _ => rfl
  | t :: l, h => by
    have ih := len12 (l := l) fun u hu => h u (List.mem_cons_of_mem _ hu)
    have e : ∀ c, wS c (t :: l) = wS c [t] ++ wS c l := fun c => wS_app (a := [t]) (b := l)
    rw [e, e, wS_one, wS_one, List.length_cons, ih]
    rcases h t List.mem_cons_self with h | h
    · rw [if_pos h, if_neg (by omega)]; simp; omega
    · rw [if_neg (by omega), if_pos h]; simp; omega
theorem X32.waits {g : Gv} {nu : List Int} {th : List Pk} {bk : List An} {said came : List Td} {d : Int → List Td} (x : X32 g nu th bk said came d) : g.waits.length ≤ 32 := by
  have h0 := len12 x.li.inv.wg
  have hb : ∀ c, c = 1 ∨ c = 2 → (wS c g.waits).length ≤ 16 := fun c hc => by
    have e := congrArg List.length (x.li.eq c hc)
    simp only [List.length_append] at e
    have : (wS c said).length ≤ said.length := List.length_filter_le ..
    have := x.few
    omega
  have := hb 1 (.inl rfl)
  have := hb 2 (.inr rfl)
  omega
/-- a tiding more -/
theorem X32.says {g : Gv} {nu : List Int} {th : List Pk} {bk : List An} {said came : List Td} {d : Int → List Td} {t : Td} (x : X32 g nu th bk said came d) (ht : t.Good) (hn : t ∉ said) (hl : said.length < 16) :
    ∃ new : List Pk, (g.say t).2 = new.map Pk.d ∧ X32 (g.say t).1 nu (th ++ new) bk (said ++ [t]) came d ∧ (g.say t).1.win = g.win := by
  obtain ⟨_, _, _, _, _, _, g0, g2⟩ := id ht
  have hgood : ∀ u ∈ said ++ [t], u.Good := fun u hu => by
    rcases List.mem_append.mp hu with hu | hu
    · exact x.good u hu
    · rw [List.mem_singleton] at hu; rw [hu]; exact ht
  have hnd : (said ++ [t]).Nodup := List.nodup_append.mpr ⟨x.nd, by simp, fun a ha b hb => by rw [List.mem_singleton] at hb; rw [hb]; exact fun z => hn (by rw [← z]; exact ha)⟩
  have hlen : (said ++ [t]).length ≤ 16 := by simp; omega
  have hsub : ∀ u ∈ came, u ∈ said ++ [t] := fun u hu => List.mem_append_left _ (x.sub u hu)
  unfold Gv.say
  by_cases h : t.g = 0
  · rw [if_pos h]
    refine ⟨[.z t], rfl, ⟨?_, x.d1, x.d2, ?_, ?_, hsub, hgood, hnd, hlen, x.full⟩, rfl⟩
    · refine (x.li.addZ (t := t)).congr fun c hc => ?_
      show wS c (said ++ [t]) = wS c said
      rw [wS_app, wS_one, if_neg (by omega), List.append_nil]
    · have e : thZ (th ++ [Pk.z t]) = thZ th ++ [t] := by unfold thZ; rw [List.filterMap_append]; rfl
      rw [e, wS_app, wS_one, if_pos h, ← List.append_assoc]
      exact x.z.append_right _
    · intro u hu
      rcases List.mem_append.mp hu with hu | hu
      · exact x.zg u hu
      · have : u = t := by simpa using hu
        rw [this]; exact h
  · rw [if_neg h]
    have hg : t.g = 1 ∨ t.g = 2 := by omega
    have L1 := x.li.keep hg (by have := x.waits; omega) (by
      show t ∉ wS t.g said
      exact fun z => hn (mem_wS.mp z).1)
    obtain ⟨fs, q1, q2, L2⟩ := L1.pump
    have L3 : Li (g.keep t).pump.1 nu (th ++ fs.map newP) bk d (fun c => wS c (said ++ [t])) := by
      refine L2.congr fun c hc => ?_
      show wS c (said ++ [t]) = addS (fun c => wS c said) t c
      unfold addS
      rw [wS_app, wS_one]
      by_cases e : c = t.g
      · rw [if_pos e, if_pos e.symm]
      · rw [if_neg e, if_neg (fun z => e z.symm), List.append_nil]
    have hp := Gv.pump_inv _ _ rfl L1.ok L1.inv
    have hkw : (g.keep t).win = g.win := by unfold Gv.keep; split <;> rfl
    refine ⟨fs.map newP, by rw [newP_d q2]; exact q1, ⟨L3, x.d1, x.d2, ?_, ?_, hsub, hgood, hnd, hlen, pump_top _⟩, by rw [hp.2.2.1, hkw]⟩
    · rw [thZ_new newP_z, wS_app, wS_one, if_neg h, List.append_nil]
      exact x.z
    · intro u hu
      rcases List.mem_append.mp hu with hu | hu
      · exact x.zg u hu
      · exact absurd (newP_z _ hu) (by simp [Pk.zt])
theorem onceP_d (f : Fy) : (onceP f).d = onceD f := by
  unfold onceP onceD
  cases f.t <;> rfl
/-- a new line -/
theorem X32.again {g : Gv} {nu : List Int} {th : List Pk} {bk : List An} {said came : List Td} {d : Int → List Td} (x : X32 g nu th bk said came d) :
    ∃ new : List Pk, g.again.2 = new.map Pk.d ∧ X32 g.again.1 nu new [] said came d ∧ g.again.1.win = g.win ∧ new.length = g.again.1.flies.length := by
  obtain ⟨fs, q1, q2, L⟩ := x.li.fresh.pump
  have hp := Gv.pump_inv _ _ rfl x.li.ok x.li.inv
  have hz : ∀ p ∈ g.flies.map onceP ++ fs.map newP, p.zt = none := fun p hp => by
    rcases List.mem_append.mp hp with hp | hp
    · obtain ⟨f, _, e⟩ := List.mem_map.mp hp
      rw [← e]
      unfold onceP
      cases f.t <;> rfl
    · exact newP_z p hp
  have hz2 : thZ (g.flies.map onceP ++ fs.map newP) = [] := List.filterMap_eq_nil_iff.mpr hz
  refine ⟨g.flies.map onceP ++ fs.map newP, ?_, ⟨L, x.d1, x.d2, ?_, fun t ht => absurd (hz _ ht) (by simp [Pk.zt]), x.sub, x.good, x.nd, x.few, pump_top g⟩, hp.2.2.1, ?_⟩
  · rw [List.map_append, newP_d q2, List.map_map]
    have : (Pk.d ∘ onceP) = onceD := funext onceP_d
    rw [this, ← q1]
    rfl
  · rw [hz2, List.append_nil]
    exact (List.sublist_append_left _ _).trans x.z
  · have h1 := L.pm.length_eq
    have h2 : ∀ l : List Pk, (∀ p ∈ l, p.zt = none) → (thI l).length = l.length := fun l => by
      induction l with
      | nil => intro _; rfl
      | cons p l ih =>
        intro h
        have := ih fun q hq => h q (List.mem_cons_of_mem _ hq)
        rw [thI_cons, List.length_append, this, List.length_cons]
        cases p with
        | z t => exact absurd (h _ List.mem_cons_self) (by simp [Pk.zt])
        | s t ag n => simp [Pk.i]; omega
        | f n => simp [Pk.i]; omega
    rw [List.length_append, h2 _ hz] at h1
    have h3 : (bkI []).length = 0 := rfl
    rw [h3] at h1
    unfold Gv.used at h1
    rw [List.length_map] at h1
    exact h1
def bodyS (k : Nat) : Str := Str.ofString "n" ++ strI k
theorem body_ok : (List.range 16).all (fun n => isBody (bodyS n).cps.toList && sok (strI n) && decide ((n : Int).natAbs < 2 ^ 64) && decide ((Str.ofString "n").length + (strI n).length ≤ 1000000)) = true := by decide +kernel
theorem body_nd : ((List.range 16).map bodyS).Nodup := by decide +kernel
theorem name_a : isName (Str.ofString "a").cps.toList = true := by decide +kernel
theorem body_at {n : Nat} {s : Sto} (h : n < 16) : dStr (.int n) s = .ok (.str (strI n)) s ∧ isBody (bodyS n).cps.toList = true ∧ dAdd nwF (.str (Str.ofString "n")) (.str (strI n)) s = .ok (.str (bodyS n)) s := by
  have := List.all_eq_true.mp body_ok n (List.mem_range.mpr h)
  simp only [Bool.and_eq_true] at this
  refine ⟨?_, this.1.1.1, ?_⟩
  · simp only [dStr, this.1.1.2, this.1.2, Bool.and_self, if_true]
  · simp only [dAdd, if_pos (of_decide_eq_true this.2)]
    rfl
theorem body_new {said : List Td} (h : said.map (·.bd) = (List.range said.length).map fun k => .str (bodyS k)) (hl : said.length < 16) {t : Td} (ht : t.bd = .str (bodyS said.length)) : t ∉ said := fun z => by
  have h1 : t.bd ∈ said.map (·.bd) := List.mem_map.mpr ⟨t, z, rfl⟩
  rw [h, ht] at h1
  obtain ⟨k, hk, e⟩ := List.mem_map.mp h1
  have hk := List.mem_range.mp hk
  have e : bodyS k = bodyS said.length := by injection e
  have nd := body_nd
  have h2 : ∀ {l : List Nat}, (l.map bodyS).Nodup → ∀ a ∈ l, ∀ b ∈ l, bodyS a = bodyS b → a = b := fun {l} => by
    induction l with
    | nil => intro _ a ha; cases ha
    | cons x l ih =>
      intro nd a ha b hb e
      rw [List.map_cons, List.nodup_cons] at nd
      rcases List.mem_cons.mp ha with h1 | h1
      · rcases List.mem_cons.mp hb with h2 | h2
        · rw [h1, h2]
        · exact absurd (List.mem_map.mpr ⟨b, h2, by rw [← e, h1]⟩) nd.1
      · rcases List.mem_cons.mp hb with h2 | h2
        · exact absurd (List.mem_map.mpr ⟨a, h1, by rw [e, h2]⟩) nd.1
        · exact ih nd.2 a h1 b h2 e
  have := h2 nd k (List.mem_range.mpr (by omega)) said.length (List.mem_range.mpr hl) e
  omega
abbrev O32 (N i k b c e f : Nat) (g : Gv) (nu : List Int) (th : List Pk) (bk : List An) (said came : List Td) : List SP := [Tw 0 N, GvA i g, TkA k nu, At b (.lst (th.map Pk.d)), At c (.lst (bk.map An.d)), At f (.lst (came.map Td.d)), At e (.lst (said.map Td.d))]
abbrev E32 (ns : List Int) (w : Int) (i k b c e f : Nat) (x9 x10 : Option Dt) : En := [some (sc ns), some (.obj 0), some (.int w), some (.obj i), some (.obj k), some (.obj b), some (.obj c), some (.obj e), some (.obj f), x9, x10]
structure S32 (N m i k b c e f : Nat) (w : Int) (s : Sto) : Prop where
  ex : ∃ g nu th bk said came d, X32 g nu th bk said came d ∧ Own (O32 N i k b c e f g nu th bk said came) s ∧ g.win = w ∧ nu.length ≤ m ∧ came.length ≤ m ∧ said.map (·.bd) = (List.range said.length).map fun k => .str (bodyS k)
theorem deed32 (ns : List Int) {N m i k b c e f : Nat} {w : Int} {s : Sto} {x9 : Option Dt} {way : Nat} (S : S32 N m i k b c e f w s) (hN : N < 800000) (hm : m < 80000) :
    ∃ b' c' s', w_law_2 (E32 ns w i k b c e f x9 (some (.int way))) s = .fl (.nx (E32 ns w i k b' c' e f x9 (some (.int way)))) s' ∧ S32 (N + 1) (m + 1) i k b' c' e f w s' := by
  obtain ⟨g, nu, th, bk, said, came, d, x, o, hw, h1, h2, hb⟩ := S.ex
  have hlen := x.len
  have el := dLen_obj (o.pull 6 (by simp)).get
  rw [List.length_map] at el
  obtain ⟨wi, fi, ow⟩ := own_gv.mp (own2 o)
  have ei := insD_obj ow.get
  by_cases w3 : (way : Int) < 3 ∧ said.length < 16
  · -- said
    obtain ⟨v, hv, s1, q1, o1⟩ := ev_draw ns (many := 3) o (by omega) (by decide)
    obtain ⟨q2, q3, q4⟩ := body_at (n := said.length) (s := s) w3.2
    obtain ⟨t, ht⟩ : ∃ t : Td, t = ⟨.str (Str.ofString "a"), .str (bodyS said.length), v, .bl ((way : Int) == 0)⟩ := ⟨_, rfl⟩
    have hgood : t.Good := by rw [ht]; exact ⟨(Str.ofString "a").cps.toList, (bodyS said.length).cps.toList, _, by rw [← mkS_eq, ← mkS_eq], name_a, q3, by show (0 : Int) ≤ v; omega, by show (v : Int) ≤ 2; omega⟩
    have hnew : t ∉ said := body_new hb w3.2 (by rw [ht])
    have oe : Own (At e (.lst (said.map Td.d)) :: [Tw 0 (N + 1), GvA i g, TkA k nu, At b (.lst (th.map Pk.d)), At c (.lst (bk.map An.d)), At f (.lst (came.map Td.d))]) s1 := o1.ix [6, 0, 1, 2, 3, 4, 5]
    have e1 : isLst s (.obj e) = true := isLst_obj (o.pull 6 (by simp)).get
    have e2 := dApp_at (y := t.d) oe.get (by rw [List.length_map]; omega)
    have o2 := oe.set (.lst (said.map Td.d ++ [t.d]))
    rw [show said.map Td.d ++ [t.d] = (said ++ [t]).map Td.d by simp] at o2 e2
    obtain ⟨s2, hs2⟩ : ∃ s2, s2 = s1.set e (.lst ((said ++ [t]).map Td.d)) := ⟨_, rfl⟩
    rw [← hs2] at o2 e2
    have e3 : dIx (.obj e) (.int (-1)) s2 = .ok t.d s2 := by rw [dIx_obj o2.get, atI_m1, List.map_append, List.getLast?_append]; rfl
    obtain ⟨r, s3, q5, k5, o3⟩ := ev_say hgood x.li.ok (by have := x.waits; omega) (own3 o2)
    obtain ⟨wi2, fi2, ow2⟩ := own_gv.mp (own3 o2)
    have ei2 := insD_obj ow2.get
    obtain ⟨new, n1, x2, n2⟩ := x.says hgood hnew w3.2
    rw [n1] at o3
    have ob : Own (At b (.lst (th.map Pk.d)) :: [LsA r (new.map Pk.d), GvA i (g.say t).1, At e (.lst ((said ++ [t]).map Td.d)), Tw 0 (N + 1), TkA k nu, At c (.lst (bk.map An.d)), At f (.lst (came.map Td.d))]) s3 := o3.ix [5, 0, 1, 2, 3, 4, 6, 7]
    have e4 := trkL_of (own2 ob)
    have hlen2 := x2.len
    simp only [List.length_append] at hlen2
    have e5 := dExt_obj (y := r) ob.get e4 (by simp only [List.length_map]; omega)
    rw [← List.map_append] at e5
    have o4 := ob.set (.lst ((th ++ new).map Pk.d))
    have e6 : isLst s2 (.obj b) = true := isLst_obj (o2.pull 4 (by simp)).get
    refine ⟨b, c, _, ?_, ⟨(g.say t).1, nu, th ++ new, bk, said ++ [t], came, d, x2, (own2 o4).drop.ix [3, 1, 4, 0, 5, 6, 2], by rw [n2, hw], by omega, by omega, ?_⟩⟩
    · have hc : (said.length : Int) < 16 := by omega
      have hd0 : dIx t.d (.int 0) s2 = .ok t.nm s2 := rfl
      have hd1 : dIx t.d (.int 1) s2 = .ok t.bd s2 := rfl
      have hd2 : dIx t.d (.int 2) s2 = .ok (.int t.g) s2 := rfl
      have hd3 : dIx t.d (.int 3) s2 = .ok t.kp s2 := rfl
      have htd : t.d = .tup [.str (Str.ofString "a"), .str (bodyS said.length), .int v, .bl ((way : Int) == 0)] := by rw [ht]; rfl
      rw [htd] at e2
      have e2' : dApp (.obj e) (.tup [.str (Str.ofString "a"), .str (bodyS said.length), .int v, .bl ((way : Int) == 0)]) s1 = .ok .non s2 := e2
      unfold w_law_2
      simp only [fnOf, ev_seq, ev_asg, sBnd_def, ev_op, ev_un, bnd_def, ev_call, evs_cons, evs_nil, ev_var, ev_c, ev_if, ev_next, ev_expr, ev_tru, ev_bl, ev_and, ev_or, ev_not, ev_yes, ev_andE, ev_orE, ev_notE, ev_ifE, ev_chain, ofB_some, ofO_some, ofO_none, truD_non, truD_bl, truD_int, truD_str, truD_tup, truD_lst, truD_lsk, ev_tup, ev_lst, ev_nwF, ev_nwM, ev_meth, ev_make, ev_fld, ev_setF, ev_bm1, asQ_tup, asQ_lst, asQ_lsk, asL_lst, asL_lsk, dLen_tup, dLen_lst, dLen_lsk, dLen_str, dIx_tup, dIx_lst, dIx_lsk, dIx_str, dAdd_int, dNeg_int, isN_def, notN_def, isNon_non, isNon_int, isNon_bl, isNon_str, isNon_tup, isNon_lst, isNon_obj, isNon_exc, dEq_int, dNe_int, dEq_str, dNe_str, dEq_bl, atI_zero, atI_one, atI_2, atI_3, atI_4, atI_5, atI_6, atI_7, atI_8, atI_9, atI_10, atI_11, atI_12, atI_m1, ev_gT, setAll_nil, setAll_cons, iOp_int, ev_gN, ev_ret, List.map_cons, List.map_nil, List.length_cons, List.length_nil, rep_zero, rep_succ, List.cons_append, List.nil_append, List.getElem?_cons_zero, List.getElem?_cons_succ, List.set_cons_zero, List.set_cons_succ, Nat.sub_self, Nat.reduceAdd, Nat.reduceSub, Option.map_some, Option.bind_some, if_true, Bool.not_true, Bool.not_false, Bool.false_eq_true, if_false, decide_true, decide_false, Int.reduceBEq, Int.reduceEq, Int.reduceLT, Int.reduceLE, Int.reduceNeg, Int.reduceAdd, Int.reduceSub, Int.reduceMul, Int.reduceToNat, Nat.reduceLT, Nat.reduceLeDiff, beq_self_eq_true, reduceIte, eq_self, Int.reduceNe, Int.reduceBNe, not_true_eq_false, not_false_eq_true, true_and, and_true, true_or, or_true, false_or, or_false, and_false, false_and, decide_eq_true_eq, Bool.true_and, Bool.and_true, Bool.false_and, Bool.and_false, Bool.true_or, Bool.or_true, Bool.false_or, Bool.or_false, w3.1, el, hc, e1, q2, q4, q1, e2', e6, ei2, e3, hd0, hd1, hd2, hd3, q5, e5]
    · rw [List.map_append, hb, List.length_append, List.length_singleton, List.range_succ, List.map_append, ht]
      rfl
  have n3 : (way : Int) < 3 → ¬ (said.length : Int) < 16 := fun a b => w3 ⟨a, by omega⟩
  have skip1 : ∀ (F G : Sx), sIf (tAnd (tBl (eOp dLt (eVar 10) (eC (.int 3)))) (tBl (eOp dLt (eUn dLen (eVar 7)) (eC (.int 16))))) F G (E32 ns w i k b c e f x9 (some (.int way))) s = G (E32 ns w i k b c e f x9 (some (.int way))) s := fun F G => by
    by_cases c1 : (way : Int) < 3
    · have c2 := n3 c1
      simp only [fnOf, ev_seq, ev_asg, sBnd_def, ev_op, ev_un, bnd_def, ev_call, evs_cons, evs_nil, ev_var, ev_c, ev_if, ev_next, ev_expr, ev_tru, ev_bl, ev_and, ev_or, ev_not, ev_yes, ev_andE, ev_orE, ev_notE, ev_ifE, ev_chain, ofB_some, ofO_some, ofO_none, truD_non, truD_bl, truD_int, truD_str, truD_tup, truD_lst, truD_lsk, ev_tup, ev_lst, ev_nwF, ev_nwM, ev_meth, ev_make, ev_fld, ev_setF, ev_bm1, asQ_tup, asQ_lst, asQ_lsk, asL_lst, asL_lsk, dLen_tup, dLen_lst, dLen_lsk, dLen_str, dIx_tup, dIx_lst, dIx_lsk, dIx_str, dAdd_int, dNeg_int, isN_def, notN_def, isNon_non, isNon_int, isNon_bl, isNon_str, isNon_tup, isNon_lst, isNon_obj, isNon_exc, dEq_int, dNe_int, dEq_str, dNe_str, dEq_bl, atI_zero, atI_one, atI_2, atI_3, atI_4, atI_5, atI_6, atI_7, atI_8, atI_9, atI_10, atI_11, atI_12, atI_m1, ev_gT, setAll_nil, setAll_cons, iOp_int, ev_gN, ev_ret, List.map_cons, List.map_nil, List.length_cons, List.length_nil, rep_zero, rep_succ, List.cons_append, List.nil_append, List.getElem?_cons_zero, List.getElem?_cons_succ, List.set_cons_zero, List.set_cons_succ, Nat.sub_self, Nat.reduceAdd, Nat.reduceSub, Option.map_some, Option.bind_some, if_true, Bool.not_true, Bool.not_false, Bool.false_eq_true, if_false, decide_true, decide_false, Int.reduceBEq, Int.reduceEq, Int.reduceLT, Int.reduceLE, Int.reduceNeg, Int.reduceAdd, Int.reduceSub, Int.reduceMul, Int.reduceToNat, Nat.reduceLT, Nat.reduceLeDiff, beq_self_eq_true, reduceIte, eq_self, Int.reduceNe, Int.reduceBNe, not_true_eq_false, not_false_eq_true, true_and, and_true, true_or, or_true, false_or, or_false, and_false, false_and, decide_eq_true_eq, Bool.true_and, Bool.and_true, Bool.false_and, Bool.and_false, Bool.true_or, Bool.or_true, Bool.false_or, Bool.or_false, c1, el, c2]
    · simp only [fnOf, ev_seq, ev_asg, sBnd_def, ev_op, ev_un, bnd_def, ev_call, evs_cons, evs_nil, ev_var, ev_c, ev_if, ev_next, ev_expr, ev_tru, ev_bl, ev_and, ev_or, ev_not, ev_yes, ev_andE, ev_orE, ev_notE, ev_ifE, ev_chain, ofB_some, ofO_some, ofO_none, truD_non, truD_bl, truD_int, truD_str, truD_tup, truD_lst, truD_lsk, ev_tup, ev_lst, ev_nwF, ev_nwM, ev_meth, ev_make, ev_fld, ev_setF, ev_bm1, asQ_tup, asQ_lst, asQ_lsk, asL_lst, asL_lsk, dLen_tup, dLen_lst, dLen_lsk, dLen_str, dIx_tup, dIx_lst, dIx_lsk, dIx_str, dAdd_int, dNeg_int, isN_def, notN_def, isNon_non, isNon_int, isNon_bl, isNon_str, isNon_tup, isNon_lst, isNon_obj, isNon_exc, dEq_int, dNe_int, dEq_str, dNe_str, dEq_bl, atI_zero, atI_one, atI_2, atI_3, atI_4, atI_5, atI_6, atI_7, atI_8, atI_9, atI_10, atI_11, atI_12, atI_m1, ev_gT, setAll_nil, setAll_cons, iOp_int, ev_gN, ev_ret, List.map_cons, List.map_nil, List.length_cons, List.length_nil, rep_zero, rep_succ, List.cons_append, List.nil_append, List.getElem?_cons_zero, List.getElem?_cons_succ, List.set_cons_zero, List.set_cons_succ, Nat.sub_self, Nat.reduceAdd, Nat.reduceSub, Option.map_some, Option.bind_some, if_true, Bool.not_true, Bool.not_false, Bool.false_eq_true, if_false, decide_true, decide_false, Int.reduceBEq, Int.reduceEq, Int.reduceLT, Int.reduceLE, Int.reduceNeg, Int.reduceAdd, Int.reduceSub, Int.reduceMul, Int.reduceToNat, Nat.reduceLT, Nat.reduceLeDiff, beq_self_eq_true, reduceIte, eq_self, Int.reduceNe, Int.reduceBNe, not_true_eq_false, not_false_eq_true, true_and, and_true, true_or, or_true, false_or, or_false, and_false, false_and, decide_eq_true_eq, Bool.true_and, Bool.and_true, Bool.false_and, Bool.and_false, Bool.true_or, Bool.or_true, Bool.false_or, Bool.or_false, c1]
  by_cases w6 : (way : Int) < 6
  · obtain ⟨g', nu', th', bk', came', d', s', q1, x2, o2, q2, q3, q4, q5⟩ := x_carry x (by omega) (by omega) (o.ix [1, 2, 3, 4, 5, 0, 6])
    have o3 : Own (O32 N i k b c e f g' nu' th' bk' said came') s' := o2.ix [5, 0, 1, 2, 3, 4, 6]
    refine ⟨b, c, s', ?_, ⟨g', nu', th', bk', said, came', d', x2, Own.more o3 (by omega), by rw [q5, hw], by omega, by omega, hb⟩⟩
    unfold w_law_2
    rw [skip1]
    simp only [fnOf, ev_seq, ev_asg, sBnd_def, ev_op, ev_un, bnd_def, ev_call, evs_cons, evs_nil, ev_var, ev_c, ev_if, ev_next, ev_expr, ev_tru, ev_bl, ev_and, ev_or, ev_not, ev_yes, ev_andE, ev_orE, ev_notE, ev_ifE, ev_chain, ofB_some, ofO_some, ofO_none, truD_non, truD_bl, truD_int, truD_str, truD_tup, truD_lst, truD_lsk, ev_tup, ev_lst, ev_nwF, ev_nwM, ev_meth, ev_make, ev_fld, ev_setF, ev_bm1, asQ_tup, asQ_lst, asQ_lsk, asL_lst, asL_lsk, dLen_tup, dLen_lst, dLen_lsk, dLen_str, dIx_tup, dIx_lst, dIx_lsk, dIx_str, dAdd_int, dNeg_int, isN_def, notN_def, isNon_non, isNon_int, isNon_bl, isNon_str, isNon_tup, isNon_lst, isNon_obj, isNon_exc, dEq_int, dNe_int, dEq_str, dNe_str, dEq_bl, atI_zero, atI_one, atI_2, atI_3, atI_4, atI_5, atI_6, atI_7, atI_8, atI_9, atI_10, atI_11, atI_12, atI_m1, ev_gT, setAll_nil, setAll_cons, iOp_int, ev_gN, ev_ret, List.map_cons, List.map_nil, List.length_cons, List.length_nil, rep_zero, rep_succ, List.cons_append, List.nil_append, List.getElem?_cons_zero, List.getElem?_cons_succ, List.set_cons_zero, List.set_cons_succ, Nat.sub_self, Nat.reduceAdd, Nat.reduceSub, Option.map_some, Option.bind_some, if_true, Bool.not_true, Bool.not_false, Bool.false_eq_true, if_false, decide_true, decide_false, Int.reduceBEq, Int.reduceEq, Int.reduceLT, Int.reduceLE, Int.reduceNeg, Int.reduceAdd, Int.reduceSub, Int.reduceMul, Int.reduceToNat, Nat.reduceLT, Nat.reduceLeDiff, beq_self_eq_true, reduceIte, eq_self, Int.reduceNe, Int.reduceBNe, not_true_eq_false, not_false_eq_true, true_and, and_true, true_or, or_true, false_or, or_false, and_false, false_and, decide_eq_true_eq, Bool.true_and, Bool.and_true, Bool.false_and, Bool.and_false, Bool.true_or, Bool.or_true, Bool.false_or, Bool.or_false, w6, q1]
  have skipM : ∀ (F G : Sx), sIf (tBl (eOp dLt (eVar 10) (eC (.int 6)))) F G (E32 ns w i k b c e f x9 (some (.int way))) s = G (E32 ns w i k b c e f x9 (some (.int way))) s := fun F G => by
    simp only [fnOf, ev_seq, ev_asg, sBnd_def, ev_op, ev_un, bnd_def, ev_call, evs_cons, evs_nil, ev_var, ev_c, ev_if, ev_next, ev_expr, ev_tru, ev_bl, ev_and, ev_or, ev_not, ev_yes, ev_andE, ev_orE, ev_notE, ev_ifE, ev_chain, ofB_some, ofO_some, ofO_none, truD_non, truD_bl, truD_int, truD_str, truD_tup, truD_lst, truD_lsk, ev_tup, ev_lst, ev_nwF, ev_nwM, ev_meth, ev_make, ev_fld, ev_setF, ev_bm1, asQ_tup, asQ_lst, asQ_lsk, asL_lst, asL_lsk, dLen_tup, dLen_lst, dLen_lsk, dLen_str, dIx_tup, dIx_lst, dIx_lsk, dIx_str, dAdd_int, dNeg_int, isN_def, notN_def, isNon_non, isNon_int, isNon_bl, isNon_str, isNon_tup, isNon_lst, isNon_obj, isNon_exc, dEq_int, dNe_int, dEq_str, dNe_str, dEq_bl, atI_zero, atI_one, atI_2, atI_3, atI_4, atI_5, atI_6, atI_7, atI_8, atI_9, atI_10, atI_11, atI_12, atI_m1, ev_gT, setAll_nil, setAll_cons, iOp_int, ev_gN, ev_ret, List.map_cons, List.map_nil, List.length_cons, List.length_nil, rep_zero, rep_succ, List.cons_append, List.nil_append, List.getElem?_cons_zero, List.getElem?_cons_succ, List.set_cons_zero, List.set_cons_succ, Nat.sub_self, Nat.reduceAdd, Nat.reduceSub, Option.map_some, Option.bind_some, if_true, Bool.not_true, Bool.not_false, Bool.false_eq_true, if_false, decide_true, decide_false, Int.reduceBEq, Int.reduceEq, Int.reduceLT, Int.reduceLE, Int.reduceNeg, Int.reduceAdd, Int.reduceSub, Int.reduceMul, Int.reduceToNat, Nat.reduceLT, Nat.reduceLeDiff, beq_self_eq_true, reduceIte, eq_self, Int.reduceNe, Int.reduceBNe, not_true_eq_false, not_false_eq_true, true_and, and_true, true_or, or_true, false_or, or_false, and_false, false_and, decide_eq_true_eq, Bool.true_and, Bool.and_true, Bool.false_and, Bool.and_false, Bool.true_or, Bool.or_true, Bool.false_or, Bool.or_false, w6]
  by_cases w10 : (way : Int) < 10 ∧ bk ≠ []
  · obtain ⟨a, bk0, hbk⟩ : ∃ a bk0, bk = a :: bk0 := by
      cases bk with
      | nil => exact absurd rfl w10.2
      | cons a r => exact ⟨a, r, rfl⟩
    subst hbk
    have oc : Own (At c (.lst (a.d :: bk0.map An.d)) :: [Tw 0 N, GvA i g, TkA k nu, At b (.lst (th.map Pk.d)), At f (.lst (came.map Td.d)), At e (.lst (said.map Td.d))]) s := o.ix [4, 0, 1, 2, 3, 5, 6]
    have et := truD_at oc.get
    have e1 := isLst_obj oc.get
    have e2 := dPop0_obj oc.get
    have o1 := oc.set (.lst (bk0.map An.d))
    obtain ⟨r, s2, g', new, q1, o2, x2, q2, q3⟩ := x_back x (own3 o1)
    have ob : Own (At b (.lst (th.map Pk.d)) :: [LsA r (new.map Pk.d), GvA i g', At c (.lst (bk0.map An.d)), Tw 0 N, TkA k nu, At f (.lst (came.map Td.d)), At e (.lst (said.map Td.d))]) s2 := o2.ix [5, 0, 1, 2, 3, 4, 6, 7]
    have e4 := trkL_of (own2 ob)
    have hlen2 := x2.len
    simp only [List.length_append] at hlen2
    have e5 := dExt_obj (y := r) ob.get e4 (by simp only [List.length_map]; omega)
    rw [← List.map_append] at e5
    have o4 := ob.set (.lst ((th ++ new).map Pk.d))
    have e6 : isLst s (.obj b) = true := isLst_obj (own4 o).get
    have o5 : Own (O32 N i k b c e f g' nu (th ++ new) bk0 said came) (s2.set b (.lst ((th ++ new).map Pk.d))) := (own2 o4).drop.ix [3, 1, 4, 0, 2, 5, 6]
    refine ⟨b, c, _, ?_, ⟨g', nu, th ++ new, bk0, said, came, d, x2, Own.more o5 (by omega), by rw [q3, hw], by omega, by omega, hb⟩⟩
    have hf1 : (An.d a :: bk0.map An.d).isEmpty = false := rfl
    unfold w_law_2
    rw [skip1]
    simp only [fnOf, ev_seq, ev_asg, sBnd_def, ev_op, ev_un, bnd_def, ev_call, evs_cons, evs_nil, ev_var, ev_c, ev_if, ev_next, ev_expr, ev_tru, ev_bl, ev_and, ev_or, ev_not, ev_yes, ev_andE, ev_orE, ev_notE, ev_ifE, ev_chain, ofB_some, ofO_some, ofO_none, truD_non, truD_bl, truD_int, truD_str, truD_tup, truD_lst, truD_lsk, ev_tup, ev_lst, ev_nwF, ev_nwM, ev_meth, ev_make, ev_fld, ev_setF, ev_bm1, asQ_tup, asQ_lst, asQ_lsk, asL_lst, asL_lsk, dLen_tup, dLen_lst, dLen_lsk, dLen_str, dIx_tup, dIx_lst, dIx_lsk, dIx_str, dAdd_int, dNeg_int, isN_def, notN_def, isNon_non, isNon_int, isNon_bl, isNon_str, isNon_tup, isNon_lst, isNon_obj, isNon_exc, dEq_int, dNe_int, dEq_str, dNe_str, dEq_bl, atI_zero, atI_one, atI_2, atI_3, atI_4, atI_5, atI_6, atI_7, atI_8, atI_9, atI_10, atI_11, atI_12, atI_m1, ev_gT, setAll_nil, setAll_cons, iOp_int, ev_gN, ev_ret, List.map_cons, List.map_nil, List.length_cons, List.length_nil, rep_zero, rep_succ, List.cons_append, List.nil_append, List.getElem?_cons_zero, List.getElem?_cons_succ, List.set_cons_zero, List.set_cons_succ, Nat.sub_self, Nat.reduceAdd, Nat.reduceSub, Option.map_some, Option.bind_some, if_true, Bool.not_true, Bool.not_false, Bool.false_eq_true, if_false, decide_true, decide_false, Int.reduceBEq, Int.reduceEq, Int.reduceLT, Int.reduceLE, Int.reduceNeg, Int.reduceAdd, Int.reduceSub, Int.reduceMul, Int.reduceToNat, Nat.reduceLT, Nat.reduceLeDiff, beq_self_eq_true, reduceIte, eq_self, Int.reduceNe, Int.reduceBNe, not_true_eq_false, not_false_eq_true, true_and, and_true, true_or, or_true, false_or, or_false, and_false, false_and, decide_eq_true_eq, Bool.true_and, Bool.and_true, Bool.false_and, Bool.and_false, Bool.true_or, Bool.or_true, Bool.false_or, Bool.or_false, w6, w10.1, et, hf1, e6, ei, e1, e2, q1, e5]
  have skip2 : ∀ (F G : Sx), sIf (tAnd (tBl (eOp dLt (eVar 10) (eC (.int 10)))) (tTru (eVar 6))) F G (E32 ns w i k b c e f x9 (some (.int way))) s = G (E32 ns w i k b c e f x9 (some (.int way))) s := fun F G => by
    by_cases c1 : (way : Int) < 10
    · have hnil : bk = [] := Classical.byContradiction fun z => w10 ⟨c1, z⟩
      have et := truD_at (own5 o).get
      rw [hnil] at et
      simp only [fnOf, ev_seq, ev_asg, sBnd_def, ev_op, ev_un, bnd_def, ev_call, evs_cons, evs_nil, ev_var, ev_c, ev_if, ev_next, ev_expr, ev_tru, ev_bl, ev_and, ev_or, ev_not, ev_yes, ev_andE, ev_orE, ev_notE, ev_ifE, ev_chain, ofB_some, ofO_some, ofO_none, truD_non, truD_bl, truD_int, truD_str, truD_tup, truD_lst, truD_lsk, ev_tup, ev_lst, ev_nwF, ev_nwM, ev_meth, ev_make, ev_fld, ev_setF, ev_bm1, asQ_tup, asQ_lst, asQ_lsk, asL_lst, asL_lsk, dLen_tup, dLen_lst, dLen_lsk, dLen_str, dIx_tup, dIx_lst, dIx_lsk, dIx_str, dAdd_int, dNeg_int, isN_def, notN_def, isNon_non, isNon_int, isNon_bl, isNon_str, isNon_tup, isNon_lst, isNon_obj, isNon_exc, dEq_int, dNe_int, dEq_str, dNe_str, dEq_bl, atI_zero, atI_one, atI_2, atI_3, atI_4, atI_5, atI_6, atI_7, atI_8, atI_9, atI_10, atI_11, atI_12, atI_m1, ev_gT, setAll_nil, setAll_cons, iOp_int, ev_gN, ev_ret, List.map_cons, List.map_nil, List.length_cons, List.length_nil, rep_zero, rep_succ, List.cons_append, List.nil_append, List.getElem?_cons_zero, List.getElem?_cons_succ, List.set_cons_zero, List.set_cons_succ, Nat.sub_self, Nat.reduceAdd, Nat.reduceSub, Option.map_some, Option.bind_some, if_true, Bool.not_true, Bool.not_false, Bool.false_eq_true, if_false, decide_true, decide_false, Int.reduceBEq, Int.reduceEq, Int.reduceLT, Int.reduceLE, Int.reduceNeg, Int.reduceAdd, Int.reduceSub, Int.reduceMul, Int.reduceToNat, Nat.reduceLT, Nat.reduceLeDiff, beq_self_eq_true, reduceIte, eq_self, Int.reduceNe, Int.reduceBNe, not_true_eq_false, not_false_eq_true, true_and, and_true, true_or, or_true, false_or, or_false, and_false, false_and, decide_eq_true_eq, Bool.true_and, Bool.and_true, Bool.false_and, Bool.and_false, Bool.true_or, Bool.or_true, Bool.false_or, Bool.or_false, c1, et, List.map_nil, List.isEmpty_nil]
    · simp only [fnOf, ev_seq, ev_asg, sBnd_def, ev_op, ev_un, bnd_def, ev_call, evs_cons, evs_nil, ev_var, ev_c, ev_if, ev_next, ev_expr, ev_tru, ev_bl, ev_and, ev_or, ev_not, ev_yes, ev_andE, ev_orE, ev_notE, ev_ifE, ev_chain, ofB_some, ofO_some, ofO_none, truD_non, truD_bl, truD_int, truD_str, truD_tup, truD_lst, truD_lsk, ev_tup, ev_lst, ev_nwF, ev_nwM, ev_meth, ev_make, ev_fld, ev_setF, ev_bm1, asQ_tup, asQ_lst, asQ_lsk, asL_lst, asL_lsk, dLen_tup, dLen_lst, dLen_lsk, dLen_str, dIx_tup, dIx_lst, dIx_lsk, dIx_str, dAdd_int, dNeg_int, isN_def, notN_def, isNon_non, isNon_int, isNon_bl, isNon_str, isNon_tup, isNon_lst, isNon_obj, isNon_exc, dEq_int, dNe_int, dEq_str, dNe_str, dEq_bl, atI_zero, atI_one, atI_2, atI_3, atI_4, atI_5, atI_6, atI_7, atI_8, atI_9, atI_10, atI_11, atI_12, atI_m1, ev_gT, setAll_nil, setAll_cons, iOp_int, ev_gN, ev_ret, List.map_cons, List.map_nil, List.length_cons, List.length_nil, rep_zero, rep_succ, List.cons_append, List.nil_append, List.getElem?_cons_zero, List.getElem?_cons_succ, List.set_cons_zero, List.set_cons_succ, Nat.sub_self, Nat.reduceAdd, Nat.reduceSub, Option.map_some, Option.bind_some, if_true, Bool.not_true, Bool.not_false, Bool.false_eq_true, if_false, decide_true, decide_false, Int.reduceBEq, Int.reduceEq, Int.reduceLT, Int.reduceLE, Int.reduceNeg, Int.reduceAdd, Int.reduceSub, Int.reduceMul, Int.reduceToNat, Nat.reduceLT, Nat.reduceLeDiff, beq_self_eq_true, reduceIte, eq_self, Int.reduceNe, Int.reduceBNe, not_true_eq_false, not_false_eq_true, true_and, and_true, true_or, or_true, false_or, or_false, and_false, false_and, decide_eq_true_eq, Bool.true_and, Bool.and_true, Bool.false_and, Bool.and_false, Bool.true_or, Bool.or_true, Bool.false_or, Bool.or_false, c1]
  by_cases w11 : ((way : Int) == 11) = true
  · -- the line breaks, a new one
    have o1 := o.new (.lst [])
    have o2 := o1.new (.lst [])
    obtain ⟨s2, hs2⟩ : ∃ s2, s2 = s ++ [Mo.lst []] ++ [Mo.lst []] := ⟨_, rfl⟩
    obtain ⟨c', hc'⟩ : ∃ c', c' = (s ++ [Mo.lst []]).length := ⟨_, rfl⟩
    rw [← hs2, ← hc'] at o2
    have og : Own (GvA i g :: [At c' (.lst []), At s.length (.lst []), Tw 0 N, TkA k nu, At b (.lst (th.map Pk.d)), At c (.lst (bk.map An.d)), At f (.lst (came.map Td.d)), At e (.lst (said.map Td.d))]) s2 := o2.ix [3, 0, 1, 2, 4, 5, 6, 7, 8]
    obtain ⟨p, s3, q1, k1, o3⟩ := ev_again x.li.ok og
    obtain ⟨wi2, fi2, ow2⟩ := own_gv.mp og
    have ei2 := insD_obj ow2.get
    obtain ⟨new, n1, x2, n2, n3⟩ := x.again
    rw [n1] at o3
    have ob : Own (At s.length (.lst []) :: [At p (.lst (new.map Pk.d)), GvA i g.again.1, At c' (.lst []), Tw 0 N, TkA k nu, At b (.lst (th.map Pk.d)), At c (.lst (bk.map An.d)), At f (.lst (came.map Td.d)), At e (.lst (said.map Td.d))]) s3 := o3.ix [3, 0, 1, 2, 4, 5, 6, 7, 8, 9]
    have hlen2 := x2.len
    have e5 := dExt_obj (y := .obj p) ob.get (trkL_obj (own2 ob).get) (by simp only [List.length_map, List.length_nil]; omega)
    rw [List.nil_append] at e5
    have o4 := ob.set (.lst (new.map Pk.d))
    have e6 : isLst s2 (.obj s.length) = true := isLst_obj (own3 og).get
    have o5 : Own (O32 N i k s.length c' e f g.again.1 nu new [] said came) (s3.set s.length (.lst (new.map Pk.d))) := by
      have z : Own ([Tw 0 N, GvA i g.again.1, TkA k nu, At s.length (.lst (new.map Pk.d)), At c' (.lst []), At f (.lst (came.map Td.d)), At e (.lst (said.map Td.d))] ++ [At p (.lst (new.map Pk.d)), At b (.lst (th.map Pk.d)), At c (.lst (bk.map An.d))]) (s3.set s.length (.lst (new.map Pk.d))) := o4.ix [4, 2, 5, 0, 3, 8, 9, 1, 6, 7]
      exact (((z.ix [7, 8, 9, 0, 1, 2, 3, 4, 5, 6]).drop).drop).drop
    refine ⟨s.length, c', _, ?_, ⟨g.again.1, nu, new, [], said, came, d, x2, Own.more o5 (by omega), by rw [n2, hw], by omega, by omega, hb⟩⟩
    have hl1 : (s ++ [Mo.lst []]).length = c' := hc'.symm
    unfold w_law_2
    rw [skip1, skipM, skip2]
    simp only [fnOf, ev_seq, ev_asg, sBnd_def, ev_op, ev_un, bnd_def, ev_call, evs_cons, evs_nil, ev_var, ev_c, ev_if, ev_next, ev_expr, ev_tru, ev_bl, ev_and, ev_or, ev_not, ev_yes, ev_andE, ev_orE, ev_notE, ev_ifE, ev_chain, ofB_some, ofO_some, ofO_none, truD_non, truD_bl, truD_int, truD_str, truD_tup, truD_lst, truD_lsk, ev_tup, ev_lst, ev_nwF, ev_nwM, ev_meth, ev_make, ev_fld, ev_setF, ev_bm1, asQ_tup, asQ_lst, asQ_lsk, asL_lst, asL_lsk, dLen_tup, dLen_lst, dLen_lsk, dLen_str, dIx_tup, dIx_lst, dIx_lsk, dIx_str, dAdd_int, dNeg_int, isN_def, notN_def, isNon_non, isNon_int, isNon_bl, isNon_str, isNon_tup, isNon_lst, isNon_obj, isNon_exc, dEq_int, dNe_int, dEq_str, dNe_str, dEq_bl, atI_zero, atI_one, atI_2, atI_3, atI_4, atI_5, atI_6, atI_7, atI_8, atI_9, atI_10, atI_11, atI_12, atI_m1, ev_gT, setAll_nil, setAll_cons, iOp_int, ev_gN, ev_ret, List.map_cons, List.map_nil, List.length_cons, List.length_nil, rep_zero, rep_succ, List.cons_append, List.nil_append, List.getElem?_cons_zero, List.getElem?_cons_succ, List.set_cons_zero, List.set_cons_succ, Nat.sub_self, Nat.reduceAdd, Nat.reduceSub, Option.map_some, Option.bind_some, if_true, Bool.not_true, Bool.not_false, Bool.false_eq_true, if_false, decide_true, w11]
    rw [hl1, ← hs2]
    simp only [fnOf, ev_seq, ev_asg, sBnd_def, ev_op, ev_un, bnd_def, ev_call, evs_cons, evs_nil, ev_var, ev_c, ev_if, ev_next, ev_expr, ev_tru, ev_bl, ev_and, ev_or, ev_not, ev_yes, ev_andE, ev_orE, ev_notE, ev_ifE, ev_chain, ofB_some, ofO_some, ofO_none, truD_non, truD_bl, truD_int, truD_str, truD_tup, truD_lst, truD_lsk, ev_tup, ev_lst, ev_nwF, ev_nwM, ev_meth, ev_make, ev_fld, ev_setF, ev_bm1, asQ_tup, asQ_lst, asQ_lsk, asL_lst, asL_lsk, dLen_tup, dLen_lst, dLen_lsk, dLen_str, dIx_tup, dIx_lst, dIx_lsk, dIx_str, dAdd_int, dNeg_int, isN_def, notN_def, isNon_non, isNon_int, isNon_bl, isNon_str, isNon_tup, isNon_lst, isNon_obj, isNon_exc, dEq_int, dNe_int, dEq_str, dNe_str, dEq_bl, atI_zero, atI_one, atI_2, atI_3, atI_4, atI_5, atI_6, atI_7, atI_8, atI_9, atI_10, atI_11, atI_12, atI_m1, ev_gT, setAll_nil, setAll_cons, iOp_int, ev_gN, ev_ret, List.map_cons, List.map_nil, List.length_cons, List.length_nil, rep_zero, rep_succ, List.cons_append, List.nil_append, List.getElem?_cons_zero, List.getElem?_cons_succ, List.set_cons_zero, List.set_cons_succ, Nat.sub_self, Nat.reduceAdd, Nat.reduceSub, Option.map_some, Option.bind_some, if_true, Bool.not_true, Bool.not_false, Bool.false_eq_true, if_false, decide_true, e6, ei2, q1, e5]
  · have w11' : ((way : Int) == 11) = false := by simpa using w11
    refine ⟨b, c, s, ?_, ⟨g, nu, th, bk, said, came, d, x, Own.more o (by omega), hw, by omega, by omega, hb⟩⟩
    unfold w_law_2
    rw [skip1, skipM, skip2]
    simp only [fnOf, ev_seq, ev_asg, sBnd_def, ev_op, ev_un, bnd_def, ev_call, evs_cons, evs_nil, ev_var, ev_c, ev_if, ev_next, ev_expr, ev_tru, ev_bl, ev_and, ev_or, ev_not, ev_yes, ev_andE, ev_orE, ev_notE, ev_ifE, ev_chain, ofB_some, ofO_some, ofO_none, truD_non, truD_bl, truD_int, truD_str, truD_tup, truD_lst, truD_lsk, ev_tup, ev_lst, ev_nwF, ev_nwM, ev_meth, ev_make, ev_fld, ev_setF, ev_bm1, asQ_tup, asQ_lst, asQ_lsk, asL_lst, asL_lsk, dLen_tup, dLen_lst, dLen_lsk, dLen_str, dIx_tup, dIx_lst, dIx_lsk, dIx_str, dAdd_int, dNeg_int, isN_def, notN_def, isNon_non, isNon_int, isNon_bl, isNon_str, isNon_tup, isNon_lst, isNon_obj, isNon_exc, dEq_int, dNe_int, dEq_str, dNe_str, dEq_bl, atI_zero, atI_one, atI_2, atI_3, atI_4, atI_5, atI_6, atI_7, atI_8, atI_9, atI_10, atI_11, atI_12, atI_m1, ev_gT, setAll_nil, setAll_cons, iOp_int, ev_gN, ev_ret, List.map_cons, List.map_nil, List.length_cons, List.length_nil, rep_zero, rep_succ, List.cons_append, List.nil_append, List.getElem?_cons_zero, List.getElem?_cons_succ, List.set_cons_zero, List.set_cons_succ, Nat.sub_self, Nat.reduceAdd, Nat.reduceSub, Option.map_some, Option.bind_some, if_true, Bool.not_true, Bool.not_false, Bool.false_eq_true, if_false, decide_true, w11']
theorem turn32 (ns : List Int) {N m i k b c e f : Nat} {w : Int} {s : Sto} {x9 : Dt} {x10 : Option Dt} (S : S32 N m i k b c e f w s) (hN : N < 700000) (hm : m < 70000) :
    ∃ b' c' y10 s', l_law_1 (E32 ns w i k b c e f (some x9) x10) s = .fl (.nx (E32 ns w i k b' c' e f (some x9) y10)) s' ∧ S32 (N + 2) (m + 1) i k b' c' e f w s' := by
  obtain ⟨g, nu, th, bk, said, came, d, x, o, hw, h1, h2, hb⟩ := S.ex
  obtain ⟨way, hv, s1, q1, o1⟩ := ev_draw ns (many := 12) o (by omega) (by decide)
  have S1 : S32 (N + 1) m i k b c e f w s1 := ⟨g, nu, th, bk, said, came, d, x, o1, hw, h1, h2, hb⟩
  have f1 : w_law_1 (E32 ns w i k b c e f (some x9) x10) s = .fl (.nx (E32 ns w i k b c e f (some x9) (some (.int way)))) s1 := by
    unfold w_law_1
    simp only [fnOf, ev_seq, ev_asg, sBnd_def, ev_op, ev_un, bnd_def, ev_call, evs_cons, evs_nil, ev_var, ev_c, ev_if, ev_next, ev_expr, ev_tru, ev_bl, ev_and, ev_or, ev_not, ev_yes, ev_andE, ev_orE, ev_notE, ev_ifE, ev_chain, ofB_some, ofO_some, ofO_none, truD_non, truD_bl, truD_int, truD_str, truD_tup, truD_lst, truD_lsk, ev_tup, ev_lst, ev_nwF, ev_nwM, ev_meth, ev_make, ev_fld, ev_setF, ev_bm1, asQ_tup, asQ_lst, asQ_lsk, asL_lst, asL_lsk, dLen_tup, dLen_lst, dLen_lsk, dLen_str, dIx_tup, dIx_lst, dIx_lsk, dIx_str, dAdd_int, dNeg_int, isN_def, notN_def, isNon_non, isNon_int, isNon_bl, isNon_str, isNon_tup, isNon_lst, isNon_obj, isNon_exc, dEq_int, dNe_int, dEq_str, dNe_str, dEq_bl, atI_zero, atI_one, atI_2, atI_3, atI_4, atI_5, atI_6, atI_7, atI_8, atI_9, atI_10, atI_11, atI_12, atI_m1, ev_gT, setAll_nil, setAll_cons, iOp_int, ev_gN, ev_ret, List.map_cons, List.map_nil, List.length_cons, List.length_nil, rep_zero, rep_succ, List.cons_append, List.nil_append, List.getElem?_cons_zero, List.getElem?_cons_succ, List.set_cons_zero, List.set_cons_succ, Nat.sub_self, Nat.reduceAdd, Nat.reduceSub, Option.map_some, Option.bind_some, if_true, Bool.not_true, Bool.not_false, Bool.false_eq_true, if_false, decide_true, decide_false, Int.reduceBEq, Int.reduceEq, Int.reduceLT, Int.reduceLE, Int.reduceNeg, Int.reduceAdd, Int.reduceSub, Int.reduceMul, Int.reduceToNat, Nat.reduceLT, Nat.reduceLeDiff, beq_self_eq_true, reduceIte, eq_self, Int.reduceNe, Int.reduceBNe, not_true_eq_false, not_false_eq_true, true_and, and_true, true_or, or_true, false_or, or_false, and_false, false_and, decide_eq_true_eq, Bool.true_and, Bool.and_true, Bool.false_and, Bool.and_false, Bool.true_or, Bool.or_true, Bool.false_or, Bool.or_false, q1]
  obtain ⟨b', c', s2, f2, S2⟩ := deed32 ns (x9 := some x9) (way := way) S1 (by omega) (by omega)
  obtain ⟨g', nu', th', bk', said', came', d', x', o', hw', _⟩ := S2.ex
  have e1 := ev_many (own2 o')
  obtain ⟨wi, fi, ow⟩ := own_gv.mp (own2 o')
  have ei := insD_obj ow.get
  have hfew : ¬ w < (g'.flies.length : Int) := by have := x'.li.ok.few; rw [hw'] at this; omega
  have f3 : w_law_3 (E32 ns w i k b' c' e f (some x9) (some (.int way))) s2 = .fl (.nx (E32 ns w i k b' c' e f (some x9) (some (.int way)))) s2 := by
    unfold w_law_3
    simp only [fnOf, ev_seq, ev_asg, sBnd_def, ev_op, ev_un, bnd_def, ev_call, evs_cons, evs_nil, ev_var, ev_c, ev_if, ev_next, ev_expr, ev_tru, ev_bl, ev_and, ev_or, ev_not, ev_yes, ev_andE, ev_orE, ev_notE, ev_ifE, ev_chain, ofB_some, ofO_some, ofO_none, truD_non, truD_bl, truD_int, truD_str, truD_tup, truD_lst, truD_lsk, ev_tup, ev_lst, ev_nwF, ev_nwM, ev_meth, ev_make, ev_fld, ev_setF, ev_bm1, asQ_tup, asQ_lst, asQ_lsk, asL_lst, asL_lsk, dLen_tup, dLen_lst, dLen_lsk, dLen_str, dIx_tup, dIx_lst, dIx_lsk, dIx_str, dAdd_int, dNeg_int, isN_def, notN_def, isNon_non, isNon_int, isNon_bl, isNon_str, isNon_tup, isNon_lst, isNon_obj, isNon_exc, dEq_int, dNe_int, dEq_str, dNe_str, dEq_bl, atI_zero, atI_one, atI_2, atI_3, atI_4, atI_5, atI_6, atI_7, atI_8, atI_9, atI_10, atI_11, atI_12, atI_m1, ev_gT, setAll_nil, setAll_cons, iOp_int, ev_gN, ev_ret, List.map_cons, List.map_nil, List.length_cons, List.length_nil, rep_zero, rep_succ, List.cons_append, List.nil_append, List.getElem?_cons_zero, List.getElem?_cons_succ, List.set_cons_zero, List.set_cons_succ, Nat.sub_self, Nat.reduceAdd, Nat.reduceSub, Option.map_some, Option.bind_some, if_true, Bool.not_true, Bool.not_false, Bool.false_eq_true, if_false, decide_true, decide_false, Int.reduceBEq, Int.reduceEq, Int.reduceLT, Int.reduceLE, Int.reduceNeg, Int.reduceAdd, Int.reduceSub, Int.reduceMul, Int.reduceToNat, Nat.reduceLT, Nat.reduceLeDiff, beq_self_eq_true, reduceIte, eq_self, Int.reduceNe, Int.reduceBNe, not_true_eq_false, not_false_eq_true, true_and, and_true, true_or, or_true, false_or, or_false, and_false, false_and, decide_eq_true_eq, Bool.true_and, Bool.and_true, Bool.false_and, Bool.and_false, Bool.true_or, Bool.or_true, Bool.false_or, Bool.or_false, ei, e1, dGt, hfew]
  refine ⟨b', c', some (.int way), s2, ?_, S2⟩
  unfold l_law_1
  simp only [ev_seq, f1, f2, f3]
theorem law_true : ∀ ns : List Int, ns.length ≤ 63 → ∃ s, m_law [.lsk (ns.map .int)] [] = .ok (.bl true) s := by
  intro ns _
  have o0 : Own [Tw 0 0] ([] ++ [Mo.lst []]) := own_tw.mpr ⟨0, Nat.le_refl _, own_nil.new (s := []) (.lst [])⟩
  obtain ⟨v2, hv2, s2, h2, o2⟩ := ev_draw ns (many := 4) o0 (by omega) (by decide)
  obtain ⟨v3, hv3, s3, h3, o3⟩ := ev_draw ns (many := 3) o2 (by omega) (by decide)
  have hA : (1 ≤ 1 + (v2 : Int) ∧ 1 + (v2 : Int) ≤ 20) ∧ (1 + (v2 : Int) ≤ 1 + v2 + v3 ∧ 1 + (v2 : Int) + v3 ≤ 65535) := by omega
  obtain ⟨s4, h4, o4⟩ := ev_init (w := 1 + v2) (m := 1 + v2 + v3) hA o3
  obtain ⟨s5, h5, o5⟩ := tk_init o4
  have o6 := o5.new (.lst [])
  obtain ⟨s6, hs6⟩ : ∃ s6, s6 = s5 ++ [Mo.lst []] := ⟨_, rfl⟩
  rw [← hs6] at o6
  have o7 := o6.new (.lst [])
  obtain ⟨s7, hs7⟩ : ∃ s7, s7 = s6 ++ [Mo.lst []] := ⟨_, rfl⟩
  rw [← hs7] at o7
  have o8 := o7.new (.lst [])
  obtain ⟨s8, hs8⟩ : ∃ s8, s8 = s7 ++ [Mo.lst []] := ⟨_, rfl⟩
  rw [← hs8] at o8
  have o9 := o8.new (.lst [])
  obtain ⟨s9, hs9⟩ : ∃ s9, s9 = s8 ++ [Mo.lst []] := ⟨_, rfl⟩
  rw [← hs9] at o9
  obtain ⟨i, hi⟩ : ∃ i, i = s3.length := ⟨_, rfl⟩
  obtain ⟨k, hk⟩ : ∃ k, k = s4.length := ⟨_, rfl⟩
  obtain ⟨b, hb⟩ : ∃ b, b = s5.length := ⟨_, rfl⟩
  obtain ⟨c, hc⟩ : ∃ c, c = s6.length := ⟨_, rfl⟩
  obtain ⟨e, he⟩ : ∃ e, e = s7.length := ⟨_, rfl⟩
  obtain ⟨f, hf⟩ : ∃ f, f = s8.length := ⟨_, rfl⟩
  rw [← hi, ← hk, ← hb, ← hc, ← he, ← hf] at o9
  rw [← hi] at h4
  rw [← hk] at h5
  have oT : Own (Tw 0 2 :: [At f (.lst []), At e (.lst []), At c (.lst []), At b (.lst []), TkA k [], GvA i ⟨1 + v2, 1 + v2 + v3, 0, [], []⟩]) s9 := o9.ix [6, 0, 1, 2, 3, 4, 5]
  obtain ⟨v10, hv10, s10, h10, o10⟩ := ev_draw ns (many := 61) oT (by omega) (by decide)
  have f1 : u_law_1 [some (sc ns), none, none, none, none, none, none, none, none, none, none] [] = .fl (.nx [some (sc ns), some (.obj 0), none, none, none, none, none, none, none, none, none]) [Mo.lst []] := by
    unfold u_law_1
    simp only [fnOf, ev_seq, ev_asg, sBnd_def, ev_op, ev_un, bnd_def, ev_call, evs_cons, evs_nil, ev_var, ev_c, ev_if, ev_next, ev_expr, ev_tru, ev_bl, ev_and, ev_or, ev_not, ev_yes, ev_andE, ev_orE, ev_notE, ev_ifE, ev_chain, ofB_some, ofO_some, ofO_none, truD_non, truD_bl, truD_int, truD_str, truD_tup, truD_lst, truD_lsk, ev_tup, ev_lst, ev_nwF, ev_nwM, ev_meth, ev_make, ev_fld, ev_setF, ev_bm1, asQ_tup, asQ_lst, asQ_lsk, asL_lst, asL_lsk, dLen_tup, dLen_lst, dLen_lsk, dLen_str, dIx_tup, dIx_lst, dIx_lsk, dIx_str, dAdd_int, dNeg_int, isN_def, notN_def, isNon_non, isNon_int, isNon_bl, isNon_str, isNon_tup, isNon_lst, isNon_obj, isNon_exc, dEq_int, dNe_int, dEq_str, dNe_str, dEq_bl, atI_zero, atI_one, atI_2, atI_3, atI_4, atI_5, atI_6, atI_7, atI_8, atI_9, atI_10, atI_11, atI_12, atI_m1, ev_gT, setAll_nil, setAll_cons, iOp_int, ev_gN, ev_ret, List.map_cons, List.map_nil, List.length_cons, List.length_nil, rep_zero, rep_succ, List.cons_append, List.nil_append, List.getElem?_cons_zero, List.getElem?_cons_succ, List.set_cons_zero, List.set_cons_succ, Nat.sub_self, Nat.reduceAdd, Nat.reduceSub, Option.map_some, Option.bind_some, if_true, Bool.not_true, Bool.not_false, Bool.false_eq_true, if_false, decide_true, decide_false, Int.reduceBEq, Int.reduceEq, Int.reduceLT, Int.reduceLE, Int.reduceNeg, Int.reduceAdd, Int.reduceSub, Int.reduceMul, Int.reduceToNat, Nat.reduceLT, Nat.reduceLeDiff, beq_self_eq_true, reduceIte, eq_self, Int.reduceNe, Int.reduceBNe, not_true_eq_false, not_false_eq_true, true_and, and_true, true_or, or_true, false_or, or_false, and_false, false_and, decide_eq_true_eq, Bool.true_and, Bool.and_true, Bool.false_and, Bool.and_false, Bool.true_or, Bool.or_true, Bool.false_or, Bool.or_false]
  rw [List.nil_append] at h2
  have f2 : u_law_2 [some (sc ns), some (.obj 0), none, none, none, none, none, none, none, none, none] [Mo.lst []] = .fl (.nx [some (sc ns), some (.obj 0), some (.int (1 + v2)), none, none, none, none, none, none, none, none]) s2 := by
    unfold u_law_2
    simp only [fnOf, ev_seq, ev_asg, sBnd_def, ev_op, ev_un, bnd_def, ev_call, evs_cons, evs_nil, ev_var, ev_c, ev_if, ev_next, ev_expr, ev_tru, ev_bl, ev_and, ev_or, ev_not, ev_yes, ev_andE, ev_orE, ev_notE, ev_ifE, ev_chain, ofB_some, ofO_some, ofO_none, truD_non, truD_bl, truD_int, truD_str, truD_tup, truD_lst, truD_lsk, ev_tup, ev_lst, ev_nwF, ev_nwM, ev_meth, ev_make, ev_fld, ev_setF, ev_bm1, asQ_tup, asQ_lst, asQ_lsk, asL_lst, asL_lsk, dLen_tup, dLen_lst, dLen_lsk, dLen_str, dIx_tup, dIx_lst, dIx_lsk, dIx_str, dAdd_int, dNeg_int, isN_def, notN_def, isNon_non, isNon_int, isNon_bl, isNon_str, isNon_tup, isNon_lst, isNon_obj, isNon_exc, dEq_int, dNe_int, dEq_str, dNe_str, dEq_bl, atI_zero, atI_one, atI_2, atI_3, atI_4, atI_5, atI_6, atI_7, atI_8, atI_9, atI_10, atI_11, atI_12, atI_m1, ev_gT, setAll_nil, setAll_cons, iOp_int, ev_gN, ev_ret, List.map_cons, List.map_nil, List.length_cons, List.length_nil, rep_zero, rep_succ, List.cons_append, List.nil_append, List.getElem?_cons_zero, List.getElem?_cons_succ, List.set_cons_zero, List.set_cons_succ, Nat.sub_self, Nat.reduceAdd, Nat.reduceSub, Option.map_some, Option.bind_some, if_true, Bool.not_true, Bool.not_false, Bool.false_eq_true, if_false, decide_true, decide_false, Int.reduceBEq, Int.reduceEq, Int.reduceLT, Int.reduceLE, Int.reduceNeg, Int.reduceAdd, Int.reduceSub, Int.reduceMul, Int.reduceToNat, Nat.reduceLT, Nat.reduceLeDiff, beq_self_eq_true, reduceIte, eq_self, Int.reduceNe, Int.reduceBNe, not_true_eq_false, not_false_eq_true, true_and, and_true, true_or, or_true, false_or, or_false, and_false, false_and, decide_eq_true_eq, Bool.true_and, Bool.and_true, Bool.false_and, Bool.and_false, Bool.true_or, Bool.or_true, Bool.false_or, Bool.or_false, h2]
  have f3 : u_law_3 [some (sc ns), some (.obj 0), some (.int (1 + v2)), none, none, none, none, none, none, none, none] s2 = .fl (.nx [some (sc ns), some (.obj 0), some (.int (1 + v2)), some (.obj i), none, none, none, none, none, none, none]) s4 := by
    unfold u_law_3
    simp only [fnOf, ev_seq, ev_asg, sBnd_def, ev_op, ev_un, bnd_def, ev_call, evs_cons, evs_nil, ev_var, ev_c, ev_if, ev_next, ev_expr, ev_tru, ev_bl, ev_and, ev_or, ev_not, ev_yes, ev_andE, ev_orE, ev_notE, ev_ifE, ev_chain, ofB_some, ofO_some, ofO_none, truD_non, truD_bl, truD_int, truD_str, truD_tup, truD_lst, truD_lsk, ev_tup, ev_lst, ev_nwF, ev_nwM, ev_meth, ev_make, ev_fld, ev_setF, ev_bm1, asQ_tup, asQ_lst, asQ_lsk, asL_lst, asL_lsk, dLen_tup, dLen_lst, dLen_lsk, dLen_str, dIx_tup, dIx_lst, dIx_lsk, dIx_str, dAdd_int, dNeg_int, isN_def, notN_def, isNon_non, isNon_int, isNon_bl, isNon_str, isNon_tup, isNon_lst, isNon_obj, isNon_exc, dEq_int, dNe_int, dEq_str, dNe_str, dEq_bl, atI_zero, atI_one, atI_2, atI_3, atI_4, atI_5, atI_6, atI_7, atI_8, atI_9, atI_10, atI_11, atI_12, atI_m1, ev_gT, setAll_nil, setAll_cons, iOp_int, ev_gN, ev_ret, List.map_cons, List.map_nil, List.length_cons, List.length_nil, rep_zero, rep_succ, List.cons_append, List.nil_append, List.getElem?_cons_zero, List.getElem?_cons_succ, List.set_cons_zero, List.set_cons_succ, Nat.sub_self, Nat.reduceAdd, Nat.reduceSub, Option.map_some, Option.bind_some, if_true, Bool.not_true, Bool.not_false, Bool.false_eq_true, if_false, decide_true, h3]
    rw [← hi]
    simp only [fnOf, ev_seq, ev_asg, sBnd_def, ev_op, ev_un, bnd_def, ev_call, evs_cons, evs_nil, ev_var, ev_c, ev_if, ev_next, ev_expr, ev_tru, ev_bl, ev_and, ev_or, ev_not, ev_yes, ev_andE, ev_orE, ev_notE, ev_ifE, ev_chain, ofB_some, ofO_some, ofO_none, truD_non, truD_bl, truD_int, truD_str, truD_tup, truD_lst, truD_lsk, ev_tup, ev_lst, ev_nwF, ev_nwM, ev_meth, ev_make, ev_fld, ev_setF, ev_bm1, asQ_tup, asQ_lst, asQ_lsk, asL_lst, asL_lsk, dLen_tup, dLen_lst, dLen_lsk, dLen_str, dIx_tup, dIx_lst, dIx_lsk, dIx_str, dAdd_int, dNeg_int, isN_def, notN_def, isNon_non, isNon_int, isNon_bl, isNon_str, isNon_tup, isNon_lst, isNon_obj, isNon_exc, dEq_int, dNe_int, dEq_str, dNe_str, dEq_bl, atI_zero, atI_one, atI_2, atI_3, atI_4, atI_5, atI_6, atI_7, atI_8, atI_9, atI_10, atI_11, atI_12, atI_m1, ev_gT, setAll_nil, setAll_cons, iOp_int, ev_gN, ev_ret, List.map_cons, List.map_nil, List.length_cons, List.length_nil, rep_zero, rep_succ, List.cons_append, List.nil_append, List.getElem?_cons_zero, List.getElem?_cons_succ, List.set_cons_zero, List.set_cons_succ, Nat.sub_self, Nat.reduceAdd, Nat.reduceSub, Option.map_some, Option.bind_some, if_true, Bool.not_true, Bool.not_false, Bool.false_eq_true, if_false, decide_true, h4]
  have f4 : u_law_4 [some (sc ns), some (.obj 0), some (.int (1 + v2)), some (.obj i), none, none, none, none, none, none, none] s4 = .fl (.nx [some (sc ns), some (.obj 0), some (.int (1 + v2)), some (.obj i), some (.obj k), none, none, none, none, none, none]) s5 := by
    unfold u_law_4
    simp only [fnOf, ev_seq, ev_asg, sBnd_def, ev_op, ev_un, bnd_def, ev_call, evs_cons, evs_nil, ev_var, ev_c, ev_if, ev_next, ev_expr, ev_tru, ev_bl, ev_and, ev_or, ev_not, ev_yes, ev_andE, ev_orE, ev_notE, ev_ifE, ev_chain, ofB_some, ofO_some, ofO_none, truD_non, truD_bl, truD_int, truD_str, truD_tup, truD_lst, truD_lsk, ev_tup, ev_lst, ev_nwF, ev_nwM, ev_meth, ev_make, ev_fld, ev_setF, ev_bm1, asQ_tup, asQ_lst, asQ_lsk, asL_lst, asL_lsk, dLen_tup, dLen_lst, dLen_lsk, dLen_str, dIx_tup, dIx_lst, dIx_lsk, dIx_str, dAdd_int, dNeg_int, isN_def, notN_def, isNon_non, isNon_int, isNon_bl, isNon_str, isNon_tup, isNon_lst, isNon_obj, isNon_exc, dEq_int, dNe_int, dEq_str, dNe_str, dEq_bl, atI_zero, atI_one, atI_2, atI_3, atI_4, atI_5, atI_6, atI_7, atI_8, atI_9, atI_10, atI_11, atI_12, atI_m1, ev_gT, setAll_nil, setAll_cons, iOp_int, ev_gN, ev_ret, List.map_cons, List.map_nil, List.length_cons, List.length_nil, rep_zero, rep_succ, List.cons_append, List.nil_append, List.getElem?_cons_zero, List.getElem?_cons_succ, List.set_cons_zero, List.set_cons_succ, Nat.sub_self, Nat.reduceAdd, Nat.reduceSub, Option.map_some, Option.bind_some, if_true, Bool.not_true, Bool.not_false, Bool.false_eq_true, if_false, decide_true]
    rw [← hk]
    simp only [fnOf, ev_seq, ev_asg, sBnd_def, ev_op, ev_un, bnd_def, ev_call, evs_cons, evs_nil, ev_var, ev_c, ev_if, ev_next, ev_expr, ev_tru, ev_bl, ev_and, ev_or, ev_not, ev_yes, ev_andE, ev_orE, ev_notE, ev_ifE, ev_chain, ofB_some, ofO_some, ofO_none, truD_non, truD_bl, truD_int, truD_str, truD_tup, truD_lst, truD_lsk, ev_tup, ev_lst, ev_nwF, ev_nwM, ev_meth, ev_make, ev_fld, ev_setF, ev_bm1, asQ_tup, asQ_lst, asQ_lsk, asL_lst, asL_lsk, dLen_tup, dLen_lst, dLen_lsk, dLen_str, dIx_tup, dIx_lst, dIx_lsk, dIx_str, dAdd_int, dNeg_int, isN_def, notN_def, isNon_non, isNon_int, isNon_bl, isNon_str, isNon_tup, isNon_lst, isNon_obj, isNon_exc, dEq_int, dNe_int, dEq_str, dNe_str, dEq_bl, atI_zero, atI_one, atI_2, atI_3, atI_4, atI_5, atI_6, atI_7, atI_8, atI_9, atI_10, atI_11, atI_12, atI_m1, ev_gT, setAll_nil, setAll_cons, iOp_int, ev_gN, ev_ret, List.map_cons, List.map_nil, List.length_cons, List.length_nil, rep_zero, rep_succ, List.cons_append, List.nil_append, List.getElem?_cons_zero, List.getElem?_cons_succ, List.set_cons_zero, List.set_cons_succ, Nat.sub_self, Nat.reduceAdd, Nat.reduceSub, Option.map_some, Option.bind_some, if_true, Bool.not_true, Bool.not_false, Bool.false_eq_true, if_false, decide_true, h5]
  have f5 : u_law_5 [some (sc ns), some (.obj 0), some (.int (1 + v2)), some (.obj i), some (.obj k), none, none, none, none, none, none] s5 = .fl (.nx [some (sc ns), some (.obj 0), some (.int (1 + v2)), some (.obj i), some (.obj k), some (.obj b), none, none, none, none, none]) s6 := by
    unfold u_law_5
    simp only [fnOf, ev_seq, ev_asg, sBnd_def, ev_op, ev_un, bnd_def, ev_call, evs_cons, evs_nil, ev_var, ev_c, ev_if, ev_next, ev_expr, ev_tru, ev_bl, ev_and, ev_or, ev_not, ev_yes, ev_andE, ev_orE, ev_notE, ev_ifE, ev_chain, ofB_some, ofO_some, ofO_none, truD_non, truD_bl, truD_int, truD_str, truD_tup, truD_lst, truD_lsk, ev_tup, ev_lst, ev_nwF, ev_nwM, ev_meth, ev_make, ev_fld, ev_setF, ev_bm1, asQ_tup, asQ_lst, asQ_lsk, asL_lst, asL_lsk, dLen_tup, dLen_lst, dLen_lsk, dLen_str, dIx_tup, dIx_lst, dIx_lsk, dIx_str, dAdd_int, dNeg_int, isN_def, notN_def, isNon_non, isNon_int, isNon_bl, isNon_str, isNon_tup, isNon_lst, isNon_obj, isNon_exc, dEq_int, dNe_int, dEq_str, dNe_str, dEq_bl, atI_zero, atI_one, atI_2, atI_3, atI_4, atI_5, atI_6, atI_7, atI_8, atI_9, atI_10, atI_11, atI_12, atI_m1, ev_gT, setAll_nil, setAll_cons, iOp_int, ev_gN, ev_ret, List.map_cons, List.map_nil, List.length_cons, List.length_nil, rep_zero, rep_succ, List.cons_append, List.nil_append, List.getElem?_cons_zero, List.getElem?_cons_succ, List.set_cons_zero, List.set_cons_succ, Nat.sub_self, Nat.reduceAdd, Nat.reduceSub, Option.map_some, Option.bind_some, if_true, Bool.not_true, Bool.not_false, Bool.false_eq_true, if_false, decide_true]
    rw [← hb, ← hs6]
  have f6 : u_law_6 [some (sc ns), some (.obj 0), some (.int (1 + v2)), some (.obj i), some (.obj k), some (.obj b), none, none, none, none, none] s6 = .fl (.nx [some (sc ns), some (.obj 0), some (.int (1 + v2)), some (.obj i), some (.obj k), some (.obj b), some (.obj c), none, none, none, none]) s7 := by
    unfold u_law_6
    simp only [fnOf, ev_seq, ev_asg, sBnd_def, ev_op, ev_un, bnd_def, ev_call, evs_cons, evs_nil, ev_var, ev_c, ev_if, ev_next, ev_expr, ev_tru, ev_bl, ev_and, ev_or, ev_not, ev_yes, ev_andE, ev_orE, ev_notE, ev_ifE, ev_chain, ofB_some, ofO_some, ofO_none, truD_non, truD_bl, truD_int, truD_str, truD_tup, truD_lst, truD_lsk, ev_tup, ev_lst, ev_nwF, ev_nwM, ev_meth, ev_make, ev_fld, ev_setF, ev_bm1, asQ_tup, asQ_lst, asQ_lsk, asL_lst, asL_lsk, dLen_tup, dLen_lst, dLen_lsk, dLen_str, dIx_tup, dIx_lst, dIx_lsk, dIx_str, dAdd_int, dNeg_int, isN_def, notN_def, isNon_non, isNon_int, isNon_bl, isNon_str, isNon_tup, isNon_lst, isNon_obj, isNon_exc, dEq_int, dNe_int, dEq_str, dNe_str, dEq_bl, atI_zero, atI_one, atI_2, atI_3, atI_4, atI_5, atI_6, atI_7, atI_8, atI_9, atI_10, atI_11, atI_12, atI_m1, ev_gT, setAll_nil, setAll_cons, iOp_int, ev_gN, ev_ret, List.map_cons, List.map_nil, List.length_cons, List.length_nil, rep_zero, rep_succ, List.cons_append, List.nil_append, List.getElem?_cons_zero, List.getElem?_cons_succ, List.set_cons_zero, List.set_cons_succ, Nat.sub_self, Nat.reduceAdd, Nat.reduceSub, Option.map_some, Option.bind_some, if_true, Bool.not_true, Bool.not_false, Bool.false_eq_true, if_false, decide_true]
    rw [← hc, ← hs7]
  have f7 : u_law_7 [some (sc ns), some (.obj 0), some (.int (1 + v2)), some (.obj i), some (.obj k), some (.obj b), some (.obj c), none, none, none, none] s7 = .fl (.nx [some (sc ns), some (.obj 0), some (.int (1 + v2)), some (.obj i), some (.obj k), some (.obj b), some (.obj c), some (.obj e), none, none, none]) s8 := by
    unfold u_law_7
    simp only [fnOf, ev_seq, ev_asg, sBnd_def, ev_op, ev_un, bnd_def, ev_call, evs_cons, evs_nil, ev_var, ev_c, ev_if, ev_next, ev_expr, ev_tru, ev_bl, ev_and, ev_or, ev_not, ev_yes, ev_andE, ev_orE, ev_notE, ev_ifE, ev_chain, ofB_some, ofO_some, ofO_none, truD_non, truD_bl, truD_int, truD_str, truD_tup, truD_lst, truD_lsk, ev_tup, ev_lst, ev_nwF, ev_nwM, ev_meth, ev_make, ev_fld, ev_setF, ev_bm1, asQ_tup, asQ_lst, asQ_lsk, asL_lst, asL_lsk, dLen_tup, dLen_lst, dLen_lsk, dLen_str, dIx_tup, dIx_lst, dIx_lsk, dIx_str, dAdd_int, dNeg_int, isN_def, notN_def, isNon_non, isNon_int, isNon_bl, isNon_str, isNon_tup, isNon_lst, isNon_obj, isNon_exc, dEq_int, dNe_int, dEq_str, dNe_str, dEq_bl, atI_zero, atI_one, atI_2, atI_3, atI_4, atI_5, atI_6, atI_7, atI_8, atI_9, atI_10, atI_11, atI_12, atI_m1, ev_gT, setAll_nil, setAll_cons, iOp_int, ev_gN, ev_ret, List.map_cons, List.map_nil, List.length_cons, List.length_nil, rep_zero, rep_succ, List.cons_append, List.nil_append, List.getElem?_cons_zero, List.getElem?_cons_succ, List.set_cons_zero, List.set_cons_succ, Nat.sub_self, Nat.reduceAdd, Nat.reduceSub, Option.map_some, Option.bind_some, if_true, Bool.not_true, Bool.not_false, Bool.false_eq_true, if_false, decide_true]
    rw [← he, ← hs8]
  have f8 : u_law_8 [some (sc ns), some (.obj 0), some (.int (1 + v2)), some (.obj i), some (.obj k), some (.obj b), some (.obj c), some (.obj e), none, none, none] s8 = .fl (.nx (E32 ns (1 + v2) i k b c e f none none)) s9 := by
    unfold u_law_8
    simp only [fnOf, ev_seq, ev_asg, sBnd_def, ev_op, ev_un, bnd_def, ev_call, evs_cons, evs_nil, ev_var, ev_c, ev_if, ev_next, ev_expr, ev_tru, ev_bl, ev_and, ev_or, ev_not, ev_yes, ev_andE, ev_orE, ev_notE, ev_ifE, ev_chain, ofB_some, ofO_some, ofO_none, truD_non, truD_bl, truD_int, truD_str, truD_tup, truD_lst, truD_lsk, ev_tup, ev_lst, ev_nwF, ev_nwM, ev_meth, ev_make, ev_fld, ev_setF, ev_bm1, asQ_tup, asQ_lst, asQ_lsk, asL_lst, asL_lsk, dLen_tup, dLen_lst, dLen_lsk, dLen_str, dIx_tup, dIx_lst, dIx_lsk, dIx_str, dAdd_int, dNeg_int, isN_def, notN_def, isNon_non, isNon_int, isNon_bl, isNon_str, isNon_tup, isNon_lst, isNon_obj, isNon_exc, dEq_int, dNe_int, dEq_str, dNe_str, dEq_bl, atI_zero, atI_one, atI_2, atI_3, atI_4, atI_5, atI_6, atI_7, atI_8, atI_9, atI_10, atI_11, atI_12, atI_m1, ev_gT, setAll_nil, setAll_cons, iOp_int, ev_gN, ev_ret, List.map_cons, List.map_nil, List.length_cons, List.length_nil, rep_zero, rep_succ, List.cons_append, List.nil_append, List.getElem?_cons_zero, List.getElem?_cons_succ, List.set_cons_zero, List.set_cons_succ, Nat.sub_self, Nat.reduceAdd, Nat.reduceSub, Option.map_some, Option.bind_some, if_true, Bool.not_true, Bool.not_false, Bool.false_eq_true, if_false, decide_true]
    rw [← hf, ← hs9]
  have X0 : X32 ⟨1 + v2, 1 + v2 + v3, 0, [], []⟩ [] [] [] [] [] (fun _ => []) := ⟨(Li.start hA).congr (fun c hc => rfl), rfl, rfl, List.Sublist.slnil, (fun t h => nomatch h), (fun t h => nomatch h), (fun t h => nomatch h), List.nodup_nil, by simp, (fun h => absurd rfl h)⟩
  have S0 : S32 3 0 i k b c e f (1 + v2) s10 := ⟨_, _, _, _, _, _, _, X0, o10.ix [0, 6, 5, 4, 3, 1, 2], rfl, Nat.le_refl _, Nat.le_refl _, rfl⟩
  obtain ⟨env, s11, hl, b1, c1, x9, x10, ee, S1⟩ := for_range_inv (tg := gN 9) (body := l_law_1) (fun n env s => ∃ b c x9 x10, env = E32 ns (1 + v2) i k b c e f x9 x10 ∧ S32 (3 + 2 * n) n i k b c e f (1 + v2) s) v10
    (env := E32 ns (1 + v2) i k b c e f none none) (s := s10) ⟨b, c, none, none, rfl, S0⟩
    (fun n env s hn ⟨b, c, x9, x10, ee, S⟩ => by
      subst ee
      obtain ⟨b', c', y10, s', q1, S'⟩ := turn32 ns (x9 := .int n) (x10 := x10) S (by omega) (by omega)
      exact ⟨_, rfl, _, s', .inl q1, b', c', _, _, rfl, by rw [show 3 + 2 * (n + 1) = 3 + 2 * n + 2 by omega]; exact S'⟩)
  subst ee
  have g10 : (v10 : Int) ≤ 16777216 ∧ -(2 ^ 62) ≤ (v10 : Int) := by omega
  have f9 : u_law_9 (E32 ns (1 + v2) i k b c e f none none) s9 = .fl (.nx (E32 ns (1 + v2) i k b1 c1 e f x9 x10)) s11 := by
    unfold u_law_9
    simp only [fnOf, ev_seq, ev_asg, sBnd_def, ev_op, ev_un, bnd_def, ev_call, evs_cons, evs_nil, ev_var, ev_c, ev_if, ev_next, ev_expr, ev_tru, ev_bl, ev_and, ev_or, ev_not, ev_yes, ev_andE, ev_orE, ev_notE, ev_ifE, ev_chain, ofB_some, ofO_some, ofO_none, truD_non, truD_bl, truD_int, truD_str, truD_tup, truD_lst, truD_lsk, ev_tup, ev_lst, ev_nwF, ev_nwM, ev_meth, ev_make, ev_fld, ev_setF, ev_bm1, asQ_tup, asQ_lst, asQ_lsk, asL_lst, asL_lsk, dLen_tup, dLen_lst, dLen_lsk, dLen_str, dIx_tup, dIx_lst, dIx_lsk, dIx_str, dAdd_int, dNeg_int, isN_def, notN_def, isNon_non, isNon_int, isNon_bl, isNon_str, isNon_tup, isNon_lst, isNon_obj, isNon_exc, dEq_int, dNe_int, dEq_str, dNe_str, dEq_bl, atI_zero, atI_one, atI_2, atI_3, atI_4, atI_5, atI_6, atI_7, atI_8, atI_9, atI_10, atI_11, atI_12, atI_m1, ev_gT, setAll_nil, setAll_cons, iOp_int, ev_gN, ev_ret, List.map_cons, List.map_nil, List.length_cons, List.length_nil, rep_zero, rep_succ, List.cons_append, List.nil_append, List.getElem?_cons_zero, List.getElem?_cons_succ, List.set_cons_zero, List.set_cons_succ, Nat.sub_self, Nat.reduceAdd, Nat.reduceSub, Option.map_some, Option.bind_some, if_true, Bool.not_true, Bool.not_false, Bool.false_eq_true, if_false, decide_true, decide_false, Int.reduceBEq, Int.reduceEq, Int.reduceLT, Int.reduceLE, Int.reduceNeg, Int.reduceAdd, Int.reduceSub, Int.reduceMul, Int.reduceToNat, Nat.reduceLT, Nat.reduceLeDiff, beq_self_eq_true, reduceIte, eq_self, Int.reduceNe, Int.reduceBNe, not_true_eq_false, not_false_eq_true, true_and, and_true, true_or, or_true, false_or, or_false, and_false, false_and, decide_eq_true_eq, Bool.true_and, Bool.and_true, Bool.false_and, Bool.and_false, Bool.true_or, Bool.or_true, Bool.false_or, Bool.or_false, ev_for, ev_iRange, h10, g10, Int.toNat_natCast]
    exact hl
  obtain ⟨g, nu, th, bk, said, came, d, x, o, hw, hnu, hca, hbd⟩ := S1.ex
  obtain ⟨p, s12, q1, k1, oA⟩ := ev_again x.li.ok (own2 o)
  obtain ⟨wi, fi, ow⟩ := own_gv.mp (own2 o)
  have ei := insD_obj ow.get
  obtain ⟨new, n1, xA, n2, n3⟩ := x.again
  rw [n1] at oA
  have f10 : u_law_10 (E32 ns (1 + v2) i k b1 c1 e f x9 x10) s11 = .fl (.nx (E32 ns (1 + v2) i k p c1 e f x9 x10)) s12 := by
    unfold u_law_10
    simp only [fnOf, ev_seq, ev_asg, sBnd_def, ev_op, ev_un, bnd_def, ev_call, evs_cons, evs_nil, ev_var, ev_c, ev_if, ev_next, ev_expr, ev_tru, ev_bl, ev_and, ev_or, ev_not, ev_yes, ev_andE, ev_orE, ev_notE, ev_ifE, ev_chain, ofB_some, ofO_some, ofO_none, truD_non, truD_bl, truD_int, truD_str, truD_tup, truD_lst, truD_lsk, ev_tup, ev_lst, ev_nwF, ev_nwM, ev_meth, ev_make, ev_fld, ev_setF, ev_bm1, asQ_tup, asQ_lst, asQ_lsk, asL_lst, asL_lsk, dLen_tup, dLen_lst, dLen_lsk, dLen_str, dIx_tup, dIx_lst, dIx_lsk, dIx_str, dAdd_int, dNeg_int, isN_def, notN_def, isNon_non, isNon_int, isNon_bl, isNon_str, isNon_tup, isNon_lst, isNon_obj, isNon_exc, dEq_int, dNe_int, dEq_str, dNe_str, dEq_bl, atI_zero, atI_one, atI_2, atI_3, atI_4, atI_5, atI_6, atI_7, atI_8, atI_9, atI_10, atI_11, atI_12, atI_m1, ev_gT, setAll_nil, setAll_cons, iOp_int, ev_gN, ev_ret, List.map_cons, List.map_nil, List.length_cons, List.length_nil, rep_zero, rep_succ, List.cons_append, List.nil_append, List.getElem?_cons_zero, List.getElem?_cons_succ, List.set_cons_zero, List.set_cons_succ, Nat.sub_self, Nat.reduceAdd, Nat.reduceSub, Option.map_some, Option.bind_some, if_true, Bool.not_true, Bool.not_false, Bool.false_eq_true, if_false, decide_true, decide_false, Int.reduceBEq, Int.reduceEq, Int.reduceLT, Int.reduceLE, Int.reduceNeg, Int.reduceAdd, Int.reduceSub, Int.reduceMul, Int.reduceToNat, Nat.reduceLT, Nat.reduceLeDiff, beq_self_eq_true, reduceIte, eq_self, Int.reduceNe, Int.reduceBNe, not_true_eq_false, not_false_eq_true, true_and, and_true, true_or, or_true, false_or, or_false, and_false, false_and, decide_eq_true_eq, Bool.true_and, Bool.and_true, Bool.false_and, Bool.and_false, Bool.true_or, Bool.or_true, Bool.false_or, Bool.or_false, ei, q1]
  have oB := oA.new (.lst [])
  obtain ⟨s13, hs13⟩ : ∃ s13, s13 = s12 ++ [Mo.lst []] := ⟨_, rfl⟩
  obtain ⟨c2, hc2⟩ : ∃ c2, c2 = s12.length := ⟨_, rfl⟩
  rw [← hs13, ← hc2] at oB
  have f11 : u_law_11 (E32 ns (1 + v2) i k p c1 e f x9 x10) s12 = .fl (.nx (E32 ns (1 + v2) i k p c2 e f x9 x10)) s13 := by
    unfold u_law_11
    simp only [fnOf, ev_seq, ev_asg, sBnd_def, ev_op, ev_un, bnd_def, ev_call, evs_cons, evs_nil, ev_var, ev_c, ev_if, ev_next, ev_expr, ev_tru, ev_bl, ev_and, ev_or, ev_not, ev_yes, ev_andE, ev_orE, ev_notE, ev_ifE, ev_chain, ofB_some, ofO_some, ofO_none, truD_non, truD_bl, truD_int, truD_str, truD_tup, truD_lst, truD_lsk, ev_tup, ev_lst, ev_nwF, ev_nwM, ev_meth, ev_make, ev_fld, ev_setF, ev_bm1, asQ_tup, asQ_lst, asQ_lsk, asL_lst, asL_lsk, dLen_tup, dLen_lst, dLen_lsk, dLen_str, dIx_tup, dIx_lst, dIx_lsk, dIx_str, dAdd_int, dNeg_int, isN_def, notN_def, isNon_non, isNon_int, isNon_bl, isNon_str, isNon_tup, isNon_lst, isNon_obj, isNon_exc, dEq_int, dNe_int, dEq_str, dNe_str, dEq_bl, atI_zero, atI_one, atI_2, atI_3, atI_4, atI_5, atI_6, atI_7, atI_8, atI_9, atI_10, atI_11, atI_12, atI_m1, ev_gT, setAll_nil, setAll_cons, iOp_int, ev_gN, ev_ret, List.map_cons, List.map_nil, List.length_cons, List.length_nil, rep_zero, rep_succ, List.cons_append, List.nil_append, List.getElem?_cons_zero, List.getElem?_cons_succ, List.set_cons_zero, List.set_cons_succ, Nat.sub_self, Nat.reduceAdd, Nat.reduceSub, Option.map_some, Option.bind_some, if_true, Bool.not_true, Bool.not_false, Bool.false_eq_true, if_false, decide_true]
    rw [← hc2, ← hs13]
  have oC : Own [GvA i g.again.1, TkA k nu, At p (.lst (new.map Pk.d)), At c2 (.lst ([].map An.d)), At f (.lst (came.map Td.d)), At e (.lst (said.map Td.d))] s13 := by
    have z : Own ([At c1 (.lst (bk.map An.d)), At b1 (.lst (th.map Pk.d)), Tw 0 (3 + 2 * v10)] ++ [GvA i g.again.1, TkA k nu, At p (.lst (new.map Pk.d)), At c2 (.lst []), At f (.lst (came.map Td.d)), At e (.lst (said.map Td.d))]) s13 := oB.ix [6, 5, 3, 2, 4, 1, 0, 7, 8]
    exact z.drop.drop.drop
  have hload : load g.again.1 new [] ≤ 400 := by
    have h1 := xA.waits
    have h2 : new.length ≤ 4 := by
      have := xA.li.ok.few
      rw [n2, hw] at this
      omega
    have a1 : ∀ l : List Td, (l.map tdw).sum ≤ 4 * l.length := fun l => by
      induction l with
      | nil => simp
      | cons y l ih => simp only [List.map_cons, List.sum_cons, List.length_cons]; have : tdw y ≤ 4 := by unfold tdw; split <;> omega
                       omega
    have a2 : ∀ l : List Pk, (l.map Pk.w).sum ≤ 4 * l.length := fun l => by
      induction l with
      | nil => simp
      | cons y l ih => simp only [List.map_cons, List.sum_cons, List.length_cons]; have : y.w ≤ 4 := by cases y <;> unfold Pk.w <;> simp only <;> (try split) <;> omega
                       omega
    have := a1 g.again.1.waits
    have := a2 new
    unfold load
    simp only [List.map_nil, List.sum_nil]
    omega
  obtain ⟨env, s14, hl2, x9', gE, nuE, thE, bkE, cameE, dE, ee, xE, oE, m1, m2, m3⟩ := for_range_inv (tg := gN 9) (body := l_law_2) (fun n env s => ∃ x9 g' nu' th' bk' came' d', env = E32 ns (1 + v2) i k p c2 e f x9 x10 ∧ X32 g' nu' th' bk' said came' d' ∧ Own [GvA i g', TkA k nu', At p (.lst (th'.map Pk.d)), At c2 (.lst (bk'.map An.d)), At f (.lst (came'.map Td.d)), At e (.lst (said.map Td.d))] s ∧ load g' th' bk' ≤ 400 - n ∧ nu'.length ≤ v10 + n ∧ came'.length ≤ v10 + n) 400
    (env := E32 ns (1 + v2) i k p c2 e f x9 x10) (s := s13) ⟨x9, _, _, _, _, _, _, rfl, xA, oC, hload, by omega, by omega⟩
    (fun n env s hn ⟨x9, g', nu', th', bk', came', d', ee, x, o, m1, m2, m3⟩ => by
      subst ee
      obtain ⟨g2, nu2, th2, bk2, came2, d2, s', r1, x2, o2, r2, r3, r4, r5⟩ := x_carry x (by omega) (by omega) o
      refine ⟨E32 ns (1 + v2) i k p c2 e f (some (.int n)) x10, rfl, E32 ns (1 + v2) i k p c2 e f (some (.int n)) x10, s', .inl ?_, _, g2, nu2, th2, bk2, came2, d2, rfl, x2, o2, by omega, by omega, by omega⟩
      unfold l_law_2
      simp only [fnOf, ev_seq, ev_asg, sBnd_def, ev_op, ev_un, bnd_def, ev_call, evs_cons, evs_nil, ev_var, ev_c, ev_if, ev_next, ev_expr, ev_tru, ev_bl, ev_and, ev_or, ev_not, ev_yes, ev_andE, ev_orE, ev_notE, ev_ifE, ev_chain, ofB_some, ofO_some, ofO_none, truD_non, truD_bl, truD_int, truD_str, truD_tup, truD_lst, truD_lsk, ev_tup, ev_lst, ev_nwF, ev_nwM, ev_meth, ev_make, ev_fld, ev_setF, ev_bm1, asQ_tup, asQ_lst, asQ_lsk, asL_lst, asL_lsk, dLen_tup, dLen_lst, dLen_lsk, dLen_str, dIx_tup, dIx_lst, dIx_lsk, dIx_str, dAdd_int, dNeg_int, isN_def, notN_def, isNon_non, isNon_int, isNon_bl, isNon_str, isNon_tup, isNon_lst, isNon_obj, isNon_exc, dEq_int, dNe_int, dEq_str, dNe_str, dEq_bl, atI_zero, atI_one, atI_2, atI_3, atI_4, atI_5, atI_6, atI_7, atI_8, atI_9, atI_10, atI_11, atI_12, atI_m1, ev_gT, setAll_nil, setAll_cons, iOp_int, ev_gN, ev_ret, List.map_cons, List.map_nil, List.length_cons, List.length_nil, rep_zero, rep_succ, List.cons_append, List.nil_append, List.getElem?_cons_zero, List.getElem?_cons_succ, List.set_cons_zero, List.set_cons_succ, Nat.sub_self, Nat.reduceAdd, Nat.reduceSub, Option.map_some, Option.bind_some, if_true, Bool.not_true, Bool.not_false, Bool.false_eq_true, if_false, decide_true, decide_false, Int.reduceBEq, Int.reduceEq, Int.reduceLT, Int.reduceLE, Int.reduceNeg, Int.reduceAdd, Int.reduceSub, Int.reduceMul, Int.reduceToNat, Nat.reduceLT, Nat.reduceLeDiff, beq_self_eq_true, reduceIte, eq_self, Int.reduceNe, Int.reduceBNe, not_true_eq_false, not_false_eq_true, true_and, and_true, true_or, or_true, false_or, or_false, and_false, false_and, decide_eq_true_eq, Bool.true_and, Bool.and_true, Bool.false_and, Bool.and_false, Bool.true_or, Bool.or_true, Bool.false_or, Bool.or_false, r1])
  subst ee
  have f12 : u_law_12 (E32 ns (1 + v2) i k p c2 e f x9 x10) s13 = .fl (.nx (E32 ns (1 + v2) i k p c2 e f x9' x10)) s14 := by
    unfold u_law_12
    have z : ((400 : Int) ≤ 16777216 ∧ -(2 ^ 62) ≤ (400 : Int)) = True := by simp
    simp only [fnOf, ev_seq, ev_asg, sBnd_def, ev_op, ev_un, bnd_def, ev_call, evs_cons, evs_nil, ev_var, ev_c, ev_if, ev_next, ev_expr, ev_tru, ev_bl, ev_and, ev_or, ev_not, ev_yes, ev_andE, ev_orE, ev_notE, ev_ifE, ev_chain, ofB_some, ofO_some, ofO_none, truD_non, truD_bl, truD_int, truD_str, truD_tup, truD_lst, truD_lsk, ev_tup, ev_lst, ev_nwF, ev_nwM, ev_meth, ev_make, ev_fld, ev_setF, ev_bm1, asQ_tup, asQ_lst, asQ_lsk, asL_lst, asL_lsk, dLen_tup, dLen_lst, dLen_lsk, dLen_str, dIx_tup, dIx_lst, dIx_lsk, dIx_str, dAdd_int, dNeg_int, isN_def, notN_def, isNon_non, isNon_int, isNon_bl, isNon_str, isNon_tup, isNon_lst, isNon_obj, isNon_exc, dEq_int, dNe_int, dEq_str, dNe_str, dEq_bl, atI_zero, atI_one, atI_2, atI_3, atI_4, atI_5, atI_6, atI_7, atI_8, atI_9, atI_10, atI_11, atI_12, atI_m1, ev_gT, setAll_nil, setAll_cons, iOp_int, ev_gN, ev_ret, List.map_cons, List.map_nil, List.length_cons, List.length_nil, rep_zero, rep_succ, List.cons_append, List.nil_append, List.getElem?_cons_zero, List.getElem?_cons_succ, List.set_cons_zero, List.set_cons_succ, Nat.sub_self, Nat.reduceAdd, Nat.reduceSub, Option.map_some, Option.bind_some, if_true, Bool.not_true, Bool.not_false, Bool.false_eq_true, if_false, decide_true, ev_for, ev_iRange, z]
    exact hl2
  -- nothing is left
  have hzero : load gE thE bkE = 0 := by omega
  have hth : thE = [] := by
    cases thE with
    | nil => rfl
    | cons y l =>
      rw [load_th] at hzero
      have : 1 ≤ y.w := by cases y <;> unfold Pk.w <;> simp only <;> (try split) <;> omega
      omega
  have hbk : bkE = [] := by
    cases bkE with
    | nil => rfl
    | cons y l =>
      rw [load_bk] at hzero
      have : 1 ≤ y.w := by cases y <;> unfold An.w <;> simp only <;> omega
      omega
  have hwa : gE.waits = [] := by
    cases hw2 : gE.waits with
    | nil => rfl
    | cons y l =>
      unfold load at hzero
      rw [hw2, List.map_cons, List.sum_cons] at hzero
      have : 2 ≤ tdw y := by unfold tdw; split <;> omega
      omega
  subst hth; subst hbk
  have hfl : gE.flies = [] := by
    have := xE.li.pm.length_eq
    have h : gE.used.length = 0 := by rw [← this]; rfl
    unfold Gv.used at h
    rw [List.length_map] at h
    exact List.eq_nil_of_length_eq_zero h
  have hd : ∀ c, c = 1 ∨ c = 2 → wS c said = dE c := fun c hc => by
    have := xE.li.eq c hc
    rw [hwa] at this
    simpa [thS, wS, und] using this
  have e1 := ev_many oE
  rw [hfl, hwa] at e1
  simp only [List.length_nil, Int.natCast_zero] at e1
  obtain ⟨wi2, fi2, ow2⟩ := own_gv.mp oE
  have ei2 := insD_obj ow2.get
  have e2 := (dEq_self (d := .tup [.int 0, .int 0]) (n := 1) (s := s14) rfl (by decide)).1
  have e3 := dAdd_any (nw := nwF) (s := s14) (x := .obj p) (y := .obj c2) (trkL_obj (own3 oE).get) (trkL_obj (own4 oE).get) (by simp)
  simp only [List.map_nil, List.append_nil] at e3
  have e4 : dEq (.lst []) (.lst []) s14 = .ok (.bl true) s14 := rfl
  have e5 := ev_good (e := e) (f := f) (said := said) (came := cameE) (s := s14) (oE.pull 5 (by simp)).get (oE.pull 4 (by simp)).get (fun t ht => (xE.good t ht).sim) xE.sub (by omega)
    (by rw [hd 2 (.inr rfl), xE.d2]) (by rw [hd 1 (.inl rfl), xE.d1]) (by have := xE.z; simpa [thZ] using this) xE.nd
  have f13 : u_law_13 (E32 ns (1 + v2) i k p c2 e f x9' x10) s14 = .fl (.rt (.bl true)) s14 := by
    unfold u_law_13
    simp only [fnOf, ev_seq, ev_asg, sBnd_def, ev_op, ev_un, bnd_def, ev_call, evs_cons, evs_nil, ev_var, ev_c, ev_if, ev_next, ev_expr, ev_tru, ev_bl, ev_and, ev_or, ev_not, ev_yes, ev_andE, ev_orE, ev_notE, ev_ifE, ev_chain, ofB_some, ofO_some, ofO_none, truD_non, truD_bl, truD_int, truD_str, truD_tup, truD_lst, truD_lsk, ev_tup, ev_lst, ev_nwF, ev_nwM, ev_meth, ev_make, ev_fld, ev_setF, ev_bm1, asQ_tup, asQ_lst, asQ_lsk, asL_lst, asL_lsk, dLen_tup, dLen_lst, dLen_lsk, dLen_str, dIx_tup, dIx_lst, dIx_lsk, dIx_str, dAdd_int, dNeg_int, isN_def, notN_def, isNon_non, isNon_int, isNon_bl, isNon_str, isNon_tup, isNon_lst, isNon_obj, isNon_exc, dEq_int, dNe_int, dEq_str, dNe_str, dEq_bl, atI_zero, atI_one, atI_2, atI_3, atI_4, atI_5, atI_6, atI_7, atI_8, atI_9, atI_10, atI_11, atI_12, atI_m1, ev_gT, setAll_nil, setAll_cons, iOp_int, ev_gN, ev_ret, List.map_cons, List.map_nil, List.length_cons, List.length_nil, rep_zero, rep_succ, List.cons_append, List.nil_append, List.getElem?_cons_zero, List.getElem?_cons_succ, List.set_cons_zero, List.set_cons_succ, Nat.sub_self, Nat.reduceAdd, Nat.reduceSub, Option.map_some, Option.bind_some, if_true, Bool.not_true, Bool.not_false, Bool.false_eq_true, if_false, decide_true, decide_false, Int.reduceBEq, Int.reduceEq, Int.reduceLT, Int.reduceLE, Int.reduceNeg, Int.reduceAdd, Int.reduceSub, Int.reduceMul, Int.reduceToNat, Nat.reduceLT, Nat.reduceLeDiff, beq_self_eq_true, reduceIte, eq_self, Int.reduceNe, Int.reduceBNe, not_true_eq_false, not_false_eq_true, true_and, and_true, true_or, or_true, false_or, or_false, and_false, false_and, decide_eq_true_eq, Bool.true_and, Bool.and_true, Bool.false_and, Bool.and_false, Bool.true_or, Bool.or_true, Bool.false_or, Bool.or_false, e3, e4, ei2, e1, e2, e5]
  refine ⟨s14, ?_⟩
  unfold m_law b_law
  simp only [fnOf, ev_seq, ev_asg, sBnd_def, ev_op, ev_un, bnd_def, ev_call, evs_cons, evs_nil, ev_var, ev_c, ev_if, ev_next, ev_expr, ev_tru, ev_bl, ev_and, ev_or, ev_not, ev_yes, ev_andE, ev_orE, ev_notE, ev_ifE, ev_chain, ofB_some, ofO_some, ofO_none, truD_non, truD_bl, truD_int, truD_str, truD_tup, truD_lst, truD_lsk, ev_tup, ev_lst, ev_nwF, ev_nwM, ev_meth, ev_make, ev_fld, ev_setF, ev_bm1, asQ_tup, asQ_lst, asQ_lsk, asL_lst, asL_lsk, dLen_tup, dLen_lst, dLen_lsk, dLen_str, dIx_tup, dIx_lst, dIx_lsk, dIx_str, dAdd_int, dNeg_int, isN_def, notN_def, isNon_non, isNon_int, isNon_bl, isNon_str, isNon_tup, isNon_lst, isNon_obj, isNon_exc, dEq_int, dNe_int, dEq_str, dNe_str, dEq_bl, atI_zero, atI_one, atI_2, atI_3, atI_4, atI_5, atI_6, atI_7, atI_8, atI_9, atI_10, atI_11, atI_12, atI_m1, ev_gT, setAll_nil, setAll_cons, iOp_int, ev_gN, ev_ret, List.map_cons, List.map_nil, List.length_cons, List.length_nil, rep_zero, rep_succ, List.cons_append, List.nil_append, List.getElem?_cons_zero, List.getElem?_cons_succ, List.set_cons_zero, List.set_cons_succ, Nat.sub_self, Nat.reduceAdd, Nat.reduceSub, Option.map_some, Option.bind_some, if_true, Bool.not_true, Bool.not_false, Bool.false_eq_true, if_false, decide_true, decide_false, Int.reduceBEq, Int.reduceEq, Int.reduceLT, Int.reduceLE, Int.reduceNeg, Int.reduceAdd, Int.reduceSub, Int.reduceMul, Int.reduceToNat, Nat.reduceLT, Nat.reduceLeDiff, beq_self_eq_true, reduceIte, eq_self, Int.reduceNe, Int.reduceBNe, not_true_eq_false, not_false_eq_true, true_and, and_true, true_or, or_true, false_or, or_false, and_false, false_and, decide_eq_true_eq, Bool.true_and, Bool.and_true, Bool.false_and, Bool.and_false, Bool.true_or, Bool.or_true, Bool.false_or, Bool.or_false, f1, f2, f3, f4, f5, f6, f7, f8, f9, f10, f11, f12, f13]
end Tx
open PySem PySem.W PyProof.Rows
set_option maxRecDepth 100000 in
set_option maxHeartbeats 0 in
theorem PySem.Challenge.cw_tidinghall_k32_whole_line_holds : PySem.Challenge.rw_tidinghall_k32_whole_line.Holds := by
  w_on; o_law; k_head; (case hw => w_witness2)
  k_fill
  refine Tx.walk Tx.law_true (l := PySem.Challenge.rw_tidinghall_k32_whole_line) rfl rfl (fun w h Y => PySem.W.kIn_of Y) ?F
  case F =>
    intro w mg fa h KX G hmg
    refine' Tx.all_mk KX G hmg ?aC_Giver ?kC_Giver ?aC_Taker ?kC_Taker ?aC_TidingError ?kC_TidingError ?aC_BadName ?kC_BadName ?aC_BadPacket ?kC_BadPacket ?aC_BadLine ?kC_BadLine ?a_is_level ?l_is_level ?c_is_level ?k_is_level ?a_look_grade ?l_look_grade ?c_look_grade ?k_look_grade ?a_must ?l_must ?c_must ?k_must ?a_is_body ?l_is_body ?c_is_body ?k_is_body ?a_look_ends ?l_look_ends ?c_look_ends ?k_look_ends ?a_Giver_number ?i_Giver_number ?l_Giver_number ?c_Giver_number ?k_Giver_number ?a_Giver_place_of ?i_Giver_place_of ?l_Giver_place_of ?c_Giver_place_of ?k_Giver_place_of ?a_Giver_many ?i_Giver_many ?l_Giver_many ?c_Giver_many ?k_Giver_many ?a_Taker_init ?i_Taker_init ?l_Taker_init ?c_Taker_init ?k_Taker_init ?a_Taker_took ?i_Taker_took ?l_Taker_took ?c_Taker_took ?k_Taker_took ?a_law_cell ?l_law_cell ?c_law_cell ?k_law_cell ?a_law_good ?l_law_good ?c_law_good ?k_law_good ?a_look_name ?l_look_name ?c_look_name ?k_look_name ?a_Giver_init ?i_Giver_init ?l_Giver_init ?c_Giver_init ?k_Giver_init ?a_Giver_pump ?i_Giver_pump ?l_Giver_pump ?c_Giver_pump ?k_Giver_pump ?a_law_mix ?l_law_mix ?c_law_mix ?k_law_mix ?a_look_tiding ?l_look_tiding ?c_look_tiding ?k_look_tiding ?a_Giver_took ?i_Giver_took ?l_Giver_took ?c_Giver_took ?k_Giver_took ?a_Giver_again ?i_Giver_again ?l_Giver_again ?c_Giver_again ?k_Giver_again ?a_law_draw ?l_law_draw ?c_law_draw ?k_law_draw ?a_Giver_keep ?i_Giver_keep ?l_Giver_keep ?c_Giver_keep ?k_Giver_keep ?a_law_carried ?l_law_carried ?c_law_carried ?k_law_carried ?a_Giver_say ?i_Giver_say ?l_Giver_say ?c_Giver_say ?k_Giver_say ?a_law ?l_law ?c_law ?k_law ?pg_Giver ?hd_Giver ?po_Giver ?sa_Giver ?mk_Giver ?n_Giver_window ?n_Giver_most ?n_Giver_last ?n_Giver_waiting ?n_Giver_flying ?pg_Taker ?hd_Taker ?po_Taker ?sa_Taker ?mk_Taker ?n_Taker_numbers ?x_TidingError ?b_TidingError ?t_TidingError ?x_BadName ?b_BadName ?t_BadName ?x_BadPacket ?b_BadPacket ?t_BadPacket ?x_BadLine ?b_BadLine ?t_BadLine ?n_all ?n_len ?n_ord ?n_range ?n_str ?v_MOST_LEVELS ?v_MOST_SIGNS ?v_MOST_BODY ?v_MOST_ID ?v_MOST_WINDOW
    (case aC_Giver => k_is)
    (case kC_Giver => k_is)
    (case aC_Taker => k_is)
    (case kC_Taker => k_is)
    (case aC_TidingError => k_is)
    (case kC_TidingError => k_is)
    (case aC_BadName => k_is)
    (case kC_BadName => k_is)
    (case aC_BadPacket => k_is)
    (case kC_BadPacket => k_is)
    (case aC_BadLine => k_is)
    (case kC_BadLine => k_is)
    (case a_is_level => k_is)
    (case l_is_level => k_is)
    (case c_is_level => k_is)
    (case k_is_level => k_is)
    (case a_look_grade => k_is)
    (case l_look_grade => k_is)
    (case c_look_grade => k_is)
    (case k_look_grade => k_is)
    (case a_must => k_is)
    (case l_must => k_is)
    (case c_must => k_is)
    (case k_must => k_is)
    (case a_is_body => k_is)
    (case l_is_body => k_is)
    (case c_is_body => k_is)
    (case k_is_body => k_is)
    (case a_look_ends => k_is)
    (case l_look_ends => k_is)
    (case c_look_ends => k_is)
    (case k_look_ends => k_is)
    (case a_Giver_number => k_is)
    (case i_Giver_number => k_is)
    (case l_Giver_number => k_is)
    (case c_Giver_number => k_is)
    (case k_Giver_number => k_is)
    (case a_Giver_place_of => k_is)
    (case i_Giver_place_of => k_is)
    (case l_Giver_place_of => k_is)
    (case c_Giver_place_of => k_is)
    (case k_Giver_place_of => k_is)
    (case a_Giver_many => k_is)
    (case i_Giver_many => k_is)
    (case l_Giver_many => k_is)
    (case c_Giver_many => k_is)
    (case k_Giver_many => k_is)
    (case a_Taker_init => k_is)
    (case i_Taker_init => k_is)
    (case l_Taker_init => k_is)
    (case c_Taker_init => k_is)
    (case k_Taker_init => k_is)
    (case a_Taker_took => k_is)
    (case i_Taker_took => k_is)
    (case l_Taker_took => k_is)
    (case c_Taker_took => k_is)
    (case k_Taker_took => k_is)
    (case a_law_cell => k_is)
    (case l_law_cell => k_is)
    (case c_law_cell => k_is)
    (case k_law_cell => k_is)
    (case a_law_good => k_is)
    (case l_law_good => k_is)
    (case c_law_good => k_is)
    (case k_law_good => k_is)
    (case a_look_name => k_is)
    (case l_look_name => k_is)
    (case c_look_name => k_is)
    (case k_look_name => k_is)
    (case a_Giver_init => k_is)
    (case i_Giver_init => k_is)
    (case l_Giver_init => k_is)
    (case c_Giver_init => k_is)
    (case k_Giver_init => k_is)
    (case a_Giver_pump => k_is)
    (case i_Giver_pump => k_is)
    (case l_Giver_pump => k_is)
    (case c_Giver_pump => k_is)
    (case k_Giver_pump => k_is)
    (case a_law_mix => k_is)
    (case l_law_mix => k_is)
    (case c_law_mix => k_is)
    (case k_law_mix => k_is)
    (case a_look_tiding => k_is)
    (case l_look_tiding => k_is)
    (case c_look_tiding => k_is)
    (case k_look_tiding => k_is)
    (case a_Giver_took => k_is)
    (case i_Giver_took => k_is)
    (case l_Giver_took => k_is)
    (case c_Giver_took => k_is)
    (case k_Giver_took => k_is)
    (case a_Giver_again => k_is)
    (case i_Giver_again => k_is)
    (case l_Giver_again => k_is)
    (case c_Giver_again => k_is)
    (case k_Giver_again => k_is)
    (case a_law_draw => k_is)
    (case l_law_draw => k_is)
    (case c_law_draw => k_is)
    (case k_law_draw => k_is)
    (case a_Giver_keep => k_is)
    (case i_Giver_keep => k_is)
    (case l_Giver_keep => k_is)
    (case c_Giver_keep => k_is)
    (case k_Giver_keep => k_is)
    (case a_law_carried => k_is)
    (case l_law_carried => k_is)
    (case c_law_carried => k_is)
    (case k_law_carried => k_is)
    (case a_Giver_say => k_is)
    (case i_Giver_say => k_is)
    (case l_Giver_say => k_is)
    (case c_Giver_say => k_is)
    (case k_Giver_say => k_is)
    (case a_law => k_is)
    (case l_law => k_is)
    (case c_law => k_is)
    (case k_law => k_is)
    (case pg_Giver => k_is)
    (case hd_Giver => k_is)
    (case po_Giver => k_is)
    (case sa_Giver => k_is)
    (case mk_Giver => k_is)
    (case n_Giver_window => k_is)
    (case n_Giver_most => k_is)
    (case n_Giver_last => k_is)
    (case n_Giver_waiting => k_is)
    (case n_Giver_flying => k_is)
    (case pg_Taker => k_is)
    (case hd_Taker => k_is)
    (case po_Taker => k_is)
    (case sa_Taker => k_is)
    (case mk_Taker => k_is)
    (case n_Taker_numbers => k_is)
    (case x_TidingError => k_exc)
    (case b_TidingError => k_is)
    (case t_TidingError => k_is)
    (case x_BadName => k_exc)
    (case b_BadName => k_is)
    (case t_BadName => k_is)
    (case x_BadPacket => k_exc)
    (case b_BadPacket => k_is)
    (case t_BadPacket => k_is)
    (case x_BadLine => k_exc)
    (case b_BadLine => k_is)
    (case t_BadLine => k_is)
    (case n_all => k_is)
    (case n_len => k_is)
    (case n_ord => k_is)
    (case n_range => k_is)
    (case n_str => k_is)
    (case v_MOST_LEVELS => k_is)
    (case v_MOST_SIGNS => k_is)
    (case v_MOST_BODY => k_is)
    (case v_MOST_ID => k_is)
    (case v_MOST_WINDOW => k_is)
