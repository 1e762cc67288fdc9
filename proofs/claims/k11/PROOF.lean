import PyProof.Rows.All
import Wide.All
import OpenK.AllK
import Wide.FinOn
import HandS.ForMost
import HandS.ForExc
import HandS.Flow
import HandS.TupAny
import HandS.Deep
import HandS.TupLen
import HandS.ExcCtx
import HandS.SetFor
import HandS.IsInst
import HandS.ExcIs
import HandS.SuiteRaise
import HandS.RaiseFrom
import KE.RegKIsAll
import KE.RegKTryMore
import HandS.DictTup
import PyProof.DictMoreH
import KE.KDictWalk
import HandS.Conv
import PyProof.StrOps2
import HandS.TupMul
import HandS.NoneIn
import HandS.SortInts
import PyProof.Rows.SortKeyStr
import PyProof.Rows.SortStr
import KE.KDictSum
import KE.KDictList
import HandS.Strs
import HandS.Style
import PySem.Challenge.RW_tidinghall_k11_whole_any_turn
set_option Elab.async false
set_option linter.all false
set_option autoImplicit false
set_option maxRecDepth 100000
set_option maxHeartbeats 4000000
/-! A layer of values over the hand layer: data that never changes is a plain value (Dt), what changes stands in a store (Mo) by number. -/
namespace Pd
open PySem L2

inductive Dt where
  | non | bl (b : Bool) | int (i : Int) | str (x : Str) | tup (l : List Dt) | lst (l : List Dt) | lsk (l : List Dt) | obj (i : Nat) | exc (c : Nat)
inductive Mo where
  | lst (l : List Dt) | ins (c : Nat) (fs : List Dt) | dic (kvs : List (Key × Dt)) | dit (kvs : List (List Key × Dt)) | dicL (kvs : List (Key × Dt)) | ditL (kvs : List (List Key × Dt))
abbrev Sto := List Mo
inductive Out (α : Type) where
  | ok (a : α) (s : Sto) | exc (c : Nat) (s : Sto) | bad
/-- the classes by number: name, attributes in the order of their first store -/
abbrev Cn := Nat → Str × List Str
structure Wd where
  K : PySem.W.Frag
  mg : Str → Option Value
  J : Cn
abbrev Wd.cl (Γ : Wd) (c : Nat) (C : Addr) : Prop := Γ.mg (Γ.J c).1 = some (.ref C)
def ExH (C : Addr) (a : Addr) : HO := .ext fun h => ∃ (oe : Obj) (vs : Array Value), h.get? a = some oe ∧ Zc (.ref C) none oe ∧ oe.data = .fields vs
/-- texts as they may be here -/
def sok (x : Str) : Bool := PyData.strOk x && decide (x.length ≤ 1000000)
/-- keys as they may be here -/
def kOk : Key → Bool
  | .inl _ => true
  | .inr x => sok x
section
variable (Γ : Wd) (ρ : List Addr) (F : Hp)
mutual
def Den : Dt → V → Prop
  | .non, v => v = .non
  | .bl b, v => v = .bl b
  | .int i, v => v = .int i
  | .str x, v => v = .str x ∧ sok x = true
  | .tup l, v => l.length ≤ sizeLine ∧ ∃ a xs, v = .ref a ∧ F a = some (.tup xs) ∧ Dens l xs
  | .lst l, v => l.length ≤ sizeLine ∧ ∃ a xs, v = .ref a ∧ F a = some (.lst xs) ∧ Dens l xs
  | .lsk l, v => l.length ≤ sizeLine ∧ ∃ a xs, v = .ref a ∧ SqL Γ.K F a xs ∧ Dens l xs
  | .obj i, v => ∃ a, v = .ref a ∧ ρ[i]? = some a
  | .exc c, v => ∃ a C, v = .ref a ∧ Γ.cl c C ∧ F a = some (ExH C a)
def Dens : List Dt → List V → Prop
  | [], vs => vs = []
  | d :: ds, vs => ∃ v r, vs = v :: r ∧ Den d v ∧ Dens ds r
end
def DenK {κ : Type} : List (κ × Dt) → List (κ × V) → Prop
  | [], vs => vs = []
  | (f, d) :: ds, vs => ∃ v r, vs = (f, v) :: r ∧ Den Γ ρ F d v ∧ DenK ds r
def MoOk (H : Hp) (a : Addr) : Mo → Prop
  | .lst l => l.length ≤ sizeLine ∧ ∃ xs, H a = some (.lst xs) ∧ Dens Γ ρ F l xs
  | .ins c fs => ∃ C dx vs, Γ.cl c C ∧ H a = some (.ins C dx ((Γ.J c).2.zip vs)) ∧ Dens Γ ρ F fs vs ∧ fs.length ≤ (Γ.J c).2.length ∧ (Γ.J c).2.length < 1000
  | .dic kvs => (kvs.length ≤ sizeLine ∧ ∀ kv ∈ kvs, kOk kv.1 = true) ∧ ∃ vs, H a = some (.dK vs) ∧ DenK Γ ρ F kvs vs
  | .dit kvs => (kvs.length ≤ sizeLine ∧ ∀ kv ∈ kvs, kv.1.all kOk = true) ∧ ∃ vs, H a = some (.dT vs) ∧ DenK Γ ρ F kvs vs
  | .dicL kvs => (kvs.length ≤ sizeLine ∧ ∀ kv ∈ kvs, kOk kv.1 = true) ∧ ∃ od vs, (H a = some (.frz od (.dK vs)) ∧ F a = some (.frz od (.dK vs))) ∧ DenK Γ ρ F kvs vs
  | .ditL kvs => (kvs.length ≤ sizeLine ∧ ∀ kv ∈ kvs, kv.1.all kOk = true) ∧ ∃ od vs, (H a = some (.frz od (.dT vs)) ∧ F a = some (.frz od (.dT vs))) ∧ DenK Γ ρ F kvs vs
end
structure LD (ρ : List Addr) (F : Hp) (ρ' : List Addr) (F' : Hp) : Prop where
  pre : ∃ r, ρ' = ρ ++ r
  sub : ∀ a o, F a = some o → F' a = some o
theorem LD.refl {ρ : List Addr} {F : Hp} : LD ρ F ρ F := ⟨⟨[], by simp⟩, fun _ _ h => h⟩
theorem LD.trans {ρ ρ1 ρ2 : List Addr} {F F1 F2 : Hp} (a : LD ρ F ρ1 F1) (b : LD ρ1 F1 ρ2 F2) : LD ρ F ρ2 F2 := by
  obtain ⟨⟨r, e⟩, h⟩ := a
  obtain ⟨⟨r2, e2⟩, h2⟩ := b
  exact ⟨⟨r ++ r2, by rw [e2, e, List.append_assoc]⟩, fun a o q => h2 a o (h a o q)⟩
theorem LD.get {ρ ρ1 : List Addr} {F F1 : Hp} (a : LD ρ F ρ1 F1) {i : Nat} {x : Addr} (h : ρ[i]? = some x) : ρ1[i]? = some x := by
  obtain ⟨⟨r, e⟩, _⟩ := a
  rw [e, List.getElem?_append_left (List.getElem?_eq_some_iff.mp h).1]
  exact h
theorem rd_sub {F F1 : Hp} {a : Addr} {u : HO} (h : ∀ a o, F a = some o → F1 a = some o) (r : Rd F a u) : Rd F1 a u := by
  rcases r with r | ⟨o, r⟩
  · exact .inl (h _ _ r)
  · exact .inr ⟨o, h _ _ r⟩
theorem sqL_sub {K : PySem.W.Frag} {F F1 : Hp} {a : Addr} {xs : List V} (h : ∀ a o, F a = some o → F1 a = some o) (r : SqL K F a xs) : SqL K F1 a xs := by
  rcases r with r | r
  · exact .inl (rd_sub h r)
  · exact .inr r
theorem sqT_sub {K : PySem.W.Frag} {F F1 : Hp} {a : Addr} {xs : List V} (h : ∀ a o, F a = some o → F1 a = some o) (r : SqT K F a xs) : SqT K F1 a xs := by
  rcases r with r | r
  · exact .inl (rd_sub h r)
  · exact .inr r
section
variable {Γ : Wd} {ρ ρ1 : List Addr} {F F1 : Hp}
mutual
theorem Den.monoD (l : LD ρ F ρ1 F1) : ∀ (d : Dt) (v : V), Den Γ ρ F d v → Den Γ ρ1 F1 d v
  | .non, v, h => by simpa only [Den] using h
  | .bl b, v, h => by simpa only [Den] using h
  | .int i, v, h => by simpa only [Den] using h
  | .str x, v, h => by simpa only [Den] using h
  | .tup ds, v, h => by
    simp only [Den] at h ⊢
    obtain ⟨z, a, xs, e, q, r⟩ := h
    exact ⟨z, a, xs, e, l.sub _ _ q, Dens.monoD l ds xs r⟩
  | .lst ds, v, h => by
    simp only [Den] at h ⊢
    obtain ⟨z, a, xs, e, q, r⟩ := h
    exact ⟨z, a, xs, e, l.sub _ _ q, Dens.monoD l ds xs r⟩
  | .lsk ds, v, h => by
    simp only [Den] at h ⊢
    obtain ⟨z, a, xs, e, q, r⟩ := h
    exact ⟨z, a, xs, e, sqL_sub l.sub q, Dens.monoD l ds xs r⟩
  | .obj i, v, h => by
    simp only [Den] at h ⊢
    obtain ⟨a, e, q⟩ := h
    exact ⟨a, e, l.get q⟩
  | .exc c, v, h => by
    simp only [Den] at h ⊢
    obtain ⟨a, C, e, q, r⟩ := h
    exact ⟨a, C, e, q, l.sub _ _ r⟩
theorem Dens.monoD (l : LD ρ F ρ1 F1) : ∀ (ds : List Dt) (vs : List V), Dens Γ ρ F ds vs → Dens Γ ρ1 F1 ds vs
  | [], vs, h => by simpa only [Dens] using h
  | d :: ds, vs, h => by
    simp only [Dens] at h ⊢
    obtain ⟨v, r, e, q, t⟩ := h
    exact ⟨v, r, e, Den.monoD l d v q, Dens.monoD l ds r t⟩
end
theorem DenK.monoD {κ : Type} (l : LD ρ F ρ1 F1) : ∀ {ds : List (κ × Dt)} {vs : List (κ × V)}, DenK Γ ρ F ds vs → DenK Γ ρ1 F1 ds vs
  | [], vs, h => h
  | (f, d) :: ds, vs, h => by
    obtain ⟨v, r, e, q, t⟩ := h
    exact ⟨v, r, e, Den.monoD l d v q, DenK.monoD l t⟩
theorem MoOk.mono (l : LD ρ F ρ1 F1) {H H1 : Hp} {a : Addr} (e : H1 a = H a) : ∀ {mo : Mo}, MoOk Γ ρ F H a mo → MoOk Γ ρ1 F1 H1 a mo
  | .lst ds, ⟨z, xs, h, q⟩ => ⟨z, xs, by rw [e]; exact h, Dens.monoD l _ _ q⟩
  | .ins c fs, ⟨C, dx, vs, g, h, q, z⟩ => ⟨C, dx, vs, g, by rw [e]; exact h, Dens.monoD l _ _ q, z⟩
  | .dic kvs, ⟨z, vs, h, q⟩ => ⟨z, vs, by rw [e]; exact h, DenK.monoD l q⟩
  | .dit kvs, ⟨z, vs, h, q⟩ => ⟨z, vs, by rw [e]; exact h, DenK.monoD l q⟩
  | .dicL kvs, ⟨z, od, vs, h, q⟩ => ⟨z, od, vs, ⟨by rw [e]; exact h.1, l.sub _ _ h.2⟩, DenK.monoD l q⟩
  | .ditL kvs, ⟨z, od, vs, h, q⟩ => ⟨z, od, vs, ⟨by rw [e]; exact h.1, l.sub _ _ h.2⟩, DenK.monoD l q⟩
end
theorem MoOk.there {Γ : Wd} {ρ : List Addr} {F H : Hp} {a : Addr} : ∀ {mo : Mo}, MoOk Γ ρ F H a mo → ∃ o, H a = some o
  | .lst ds, ⟨_, xs, h, q⟩ => ⟨_, h⟩
  | .ins c fs, ⟨C, dx, vs, g, h, q⟩ => ⟨_, h⟩
  | .dic kvs, ⟨_, vs, h, q⟩ => ⟨_, h⟩
  | .dit kvs, ⟨_, vs, h, q⟩ => ⟨_, h⟩
  | .dicL kvs, ⟨_, od, vs, h, q⟩ => ⟨_, h.1⟩
  | .ditL kvs, ⟨_, od, vs, h, q⟩ => ⟨_, h.1⟩
structure G (Γ : Wd) (ρ : List Addr) (F : Hp) (s : Sto) (H : Hp) : Prop where
  sub : ∀ a o, F a = some o → H a = some o
  len : ρ.length = s.length
  nd : ρ.Nodup
  sep : ∀ a ∈ ρ, F a = none ∨ ∃ od u, F a = some (.frz od u)
  at_ : ∀ (i : Nat) (a : Addr) (mo : Mo), ρ[i]? = some a → s[i]? = some mo → MoOk Γ ρ F H a mo
section
variable {Γ : Wd} {ρ ρ1 : List Addr} {F F1 H : Hp} {s : Sto}
theorem G.ex (g : G Γ ρ F s H) {a : Addr} (h : a ∈ ρ) : ∃ o, H a = some o := by
  obtain ⟨i, hi, e⟩ := List.mem_iff_getElem.mp h
  have hs : i < s.length := by rw [← g.len]; exact hi
  exact (g.at_ i a s[i] (by rw [← e]; exact List.getElem?_eq_getElem hi) (List.getElem?_eq_getElem hs)).there
theorem G.new_ne (g : G Γ ρ F s H) {p : Addr} (hp : H p = none) {a : Addr} (h : a ∈ ρ) : a ≠ p := fun e => by
  obtain ⟨o, q⟩ := g.ex h
  rw [e, hp] at q
  cases q
theorem G.fnone (g : G Γ ρ F s H) {p : Addr} (hp : H p = none) : F p = none := by
  cases e : F p with
  | none => rfl
  | some o => rw [g.sub _ _ e] at hp; cases hp
theorem LD.upd {p : Addr} {o : HO} (h : F p = none) : LD ρ F ρ (upd F p o) := ⟨⟨[], by simp⟩, fun a u e => by rw [upd_ne (fun z => by rw [z, h] at e; cases e)]; exact e⟩
theorem LD.push {p : Addr} : LD ρ F (ρ ++ [p]) F := ⟨⟨[p], rfl⟩, fun _ _ e => e⟩
/-- a new object that never changes -/
theorem G.frz (g : G Γ ρ F s H) {p : Addr} (o : HO) (hp : H p = none) : G Γ ρ (upd F p o) s (upd H p o) where
  sub := fun a u e => by
    by_cases h : a = p
    · subst h; rw [upd_same] at e ⊢; exact e
    · rw [upd_ne h] at e ⊢; exact g.sub _ _ e
  len := g.len
  nd := g.nd
  sep := fun a h => by rw [upd_ne (g.new_ne hp h)]; exact g.sep a h
  at_ := fun i a mo h1 h2 => (g.at_ i a mo h1 h2).mono (LD.upd (g.fnone hp)) (upd_ne (g.new_ne hp (List.mem_of_getElem? h1)))
/-- a new object that is forgotten at once -/
theorem G.skip (g : G Γ ρ F s H) {p : Addr} (o : HO) (hp : H p = none) : G Γ ρ F s (upd H p o) where
  sub := fun a u e => by
    rw [upd_ne (fun z => by rw [z, g.fnone hp] at e; cases e)]; exact g.sub _ _ e
  len := g.len
  nd := g.nd
  sep := g.sep
  at_ := fun i a mo h1 h2 => (g.at_ i a mo h1 h2).mono LD.refl (upd_ne (g.new_ne hp (List.mem_of_getElem? h1)))
/-- a new object of the store -/
theorem G.new (g : G Γ ρ F s H) {p : Addr} {o : HO} {mo : Mo} (hp : H p = none) (hm : MoOk Γ (ρ ++ [p]) F (upd H p o) p mo) : G Γ (ρ ++ [p]) F (s ++ [mo]) (upd H p o) where
  sub := fun a u e => by
    rw [upd_ne (fun z => by rw [z, g.fnone hp] at e; cases e)]; exact g.sub _ _ e
  len := by simp [g.len]
  nd := by
    refine List.nodup_append.mpr ⟨g.nd, by simp, fun a ha b hb => ?_⟩
    rw [List.mem_singleton] at hb
    rw [hb]
    exact g.new_ne hp ha
  sep := fun a h => by
    rcases List.mem_append.mp h with h | h
    · exact g.sep a h
    · rw [List.mem_singleton] at h; rw [h]; exact .inl (g.fnone hp)
  at_ := fun i a m h1 h2 => by
    by_cases hi : i < ρ.length
    · rw [List.getElem?_append_left hi] at h1
      rw [List.getElem?_append_left (by rw [← g.len]; exact hi)] at h2
      exact (g.at_ i a m h1 h2).mono LD.push (upd_ne (g.new_ne hp (List.mem_of_getElem? h1)))
    · rw [List.getElem?_append_right (by omega)] at h1
      rw [List.getElem?_append_right (by rw [← g.len]; omega)] at h2
      have e0 : i - ρ.length = 0 := by
        have := (List.getElem?_eq_some_iff.mp h1).1
        simp at this
        omega
      rw [e0] at h1
      rw [← g.len, e0] at h2
      have e1 : p = a := Option.some.inj h1
      have e2 : mo = m := Option.some.inj h2
      subst e1; subst e2
      exact hm
/-- an object of the store is written -/
theorem G.free (g : G Γ ρ F s H) {a : Addr} (h : a ∈ ρ) (nf : ∀ od u, H a ≠ some (.frz od u)) : F a = none := by
  rcases g.sep a h with h | ⟨od, u, h⟩
  · exact h
  · exact absurd (g.sub _ _ h) (nf od u)
theorem G.put (g : G Γ ρ F s H) {i : Nat} {a : Addr} {o : HO} {mo : Mo} (hi : ρ[i]? = some a) (nf : ∀ od u, H a ≠ some (.frz od u)) (hm : MoOk Γ ρ F (upd H a o) a mo) : G Γ ρ F (s.set i mo) (upd H a o) where
  sub := fun b u e => by
    rw [upd_ne (fun z => by rw [z, g.free (List.mem_of_getElem? hi) nf] at e; cases e)]; exact g.sub _ _ e
  len := by rw [List.length_set]; exact g.len
  nd := g.nd
  sep := g.sep
  at_ := fun j b m h1 h2 => by
    by_cases hj : i = j
    · subst hj
      have e : a = b := Option.some.inj (hi.symm.trans h1)
      subst e
      have hl : i < s.length := by rw [← g.len]; exact (List.getElem?_eq_some_iff.mp hi).1
      rw [List.getElem?_set_self hl] at h2
      cases h2
      exact hm
    · rw [List.getElem?_set_ne hj] at h2
      refine (g.at_ j b m h1 h2).mono LD.refl (upd_ne fun z => hj ?_)
      subst z
      exact nd_ix g.nd hi h1
end
/-- what may have come to pass: more is known, what was not the store's stands as it stood -/
structure LE (ρ : List Addr) (F H : Hp) (ρ' : List Addr) (F' H' : Hp) : Prop where
  ld : LD ρ F ρ' F'
  fr : ∀ a, a ∈ ρ' → a ∈ ρ ∨ H a = none
  ff : ∀ a o, F' a = some o → (∃ u, F a = some u) ∨ H a = none ∨ (a ∉ ρ ∧ ∃ xs, H a = some (.tup xs))
  keep : ∀ a o, H a = some o → a ∉ ρ → H' a = some o
  there : ∀ a o, H a = some o → ∃ u, H' a = some u
theorem LE.refl {ρ : List Addr} {F H : Hp} : LE ρ F H ρ F H := ⟨LD.refl, fun _ h => .inl h, fun _ o h => .inl ⟨o, h⟩, fun _ _ h _ => h, fun _ o h => ⟨o, h⟩⟩
theorem LE.gone {ρ ρ1 : List Addr} {F H F1 H1 : Hp} (l : LE ρ F H ρ1 F1 H1) {a : Addr} (h : H1 a = none) : H a = none := by
  cases e : H a with
  | none => rfl
  | some o =>
    obtain ⟨u, q⟩ := l.there a o e
    rw [h] at q
    cases q
theorem LE.sub {ρ ρ1 : List Addr} {F H F1 H1 : Hp} (l : LE ρ F H ρ1 F1 H1) {a : Addr} (h : a ∈ ρ) : a ∈ ρ1 := by
  obtain ⟨r, e⟩ := l.ld.pre
  rw [e]
  exact List.mem_append_left _ h
theorem LE.trans {ρ ρ1 ρ2 : List Addr} {F F1 F2 H H1 H2 : Hp} (a : LE ρ F H ρ1 F1 H1) (b : LE ρ1 F1 H1 ρ2 F2 H2) : LE ρ F H ρ2 F2 H2 where
  ld := a.ld.trans b.ld
  fr := fun x h => by
    rcases b.fr x h with h | h
    · exact a.fr x h
    · exact .inr (a.gone h)
  ff := fun x o h => by
    rcases b.ff x o h with ⟨u, h⟩ | h | ⟨n, xs, h⟩
    · exact a.ff x u h
    · exact .inr (.inl (a.gone h))
    · have n0 : x ∉ ρ := fun z => n (a.sub z)
      cases e : H x with
      | none => exact .inr (.inl rfl)
      | some u =>
        have := a.keep x u e n0
        rw [h] at this
        cases this
        exact .inr (.inr ⟨n0, xs, rfl⟩)
  keep := fun x o h n => b.keep x o (a.keep x o h n) fun z => by
    rcases a.fr x z with z | z
    · exact n z
    · rw [h] at z; cases z
  there := fun x o h => by
    obtain ⟨u, q⟩ := a.there x o h
    exact b.there x u q
theorem Den.mono {Γ : Wd} {ρ ρ1 : List Addr} {F F1 H H1 : Hp} (l : LE ρ F H ρ1 F1 H1) (d : Dt) (v : V) (h : Den Γ ρ F d v) : Den Γ ρ1 F1 d v := Den.monoD l.ld d v h
theorem Dens.mono {Γ : Wd} {ρ ρ1 : List Addr} {F F1 H H1 : Hp} (l : LE ρ F H ρ1 F1 H1) (d : List Dt) (v : List V) (h : Dens Γ ρ F d v) : Dens Γ ρ1 F1 d v := Dens.monoD l.ld d v h
section
variable {Γ : Wd} {ρ : List Addr} {F H : Hp} {s : Sto}
theorem upd_keep {a p : Addr} {o u : HO} (hp : H p = none) (h : H a = some o) : upd H p u a = some o := by rw [upd_ne (ne_of_none h hp)]; exact h
theorem LE.frz (g : G Γ ρ F s H) {p : Addr} {o : HO} (hp : H p = none) : LE ρ F H ρ (upd F p o) (upd H p o) where
  ld := LD.upd (g.fnone hp)
  fr := fun _ h => .inl h
  ff := fun a u h => by
    by_cases e : a = p
    · subst e; exact .inr (.inl hp)
    · rw [upd_ne e] at h; exact .inl ⟨u, h⟩
  keep := fun a u h _ => upd_keep hp h
  there := fun a u h => ⟨u, upd_keep hp h⟩
theorem LE.new {p : Addr} {o : HO} (hp : H p = none) : LE ρ F H (ρ ++ [p]) F (upd H p o) where
  ld := LD.push
  fr := fun a h => by
    rcases List.mem_append.mp h with h | h
    · exact .inl h
    · rw [List.mem_singleton] at h; rw [h]; exact .inr hp
  ff := fun a u h => .inl ⟨u, h⟩
  keep := fun a u h _ => upd_keep hp h
  there := fun a u h => ⟨u, upd_keep hp h⟩
theorem LE.skip {p : Addr} {o : HO} (hp : H p = none) : LE ρ F H ρ F (upd H p o) where
  ld := LD.refl
  fr := fun _ h => .inl h
  ff := fun a u h => .inl ⟨u, h⟩
  keep := fun a u h _ => upd_keep hp h
  there := fun a u h => ⟨u, upd_keep hp h⟩
theorem LE.put {a : Addr} {o : HO} (ha : a ∈ ρ) : LE ρ F H ρ F (upd H a o) where
  ld := LD.refl
  fr := fun _ h => .inl h
  ff := fun a u h => .inl ⟨u, h⟩
  keep := fun b u h n => by rw [upd_ne (fun e => n (by rw [e]; exact ha))]; exact h
  there := fun b u h => by
    by_cases e : b = a
    · subst e; exact ⟨o, upd_same⟩
    · exact ⟨u, by rw [upd_ne e]; exact h⟩
/-- an object that is neither the store's nor known is written -/
theorem G.other (g : G Γ ρ F s H) {p : Addr} (o : HO) (hp : p ∉ ρ) (hf : F p = none) : G Γ ρ F s (upd H p o) where
  sub := fun a u e => by
    rw [upd_ne (fun z => by rw [z, hf] at e; cases e)]; exact g.sub _ _ e
  len := g.len
  nd := g.nd
  sep := g.sep
  at_ := fun i a mo h1 h2 => (g.at_ i a mo h1 h2).mono LD.refl (upd_ne fun z => hp (by rw [← z]; exact List.mem_of_getElem? h1))
end
/-! ### meanings -/
abbrev En := List (Option Dt)
abbrev Ex := En → Sto → Out Dt
abbrev Tx := En → Sto → Out Bool
inductive Fl where
  | nx (e : En) | rt (d : Dt) | bk (e : En) | ct (e : En)
inductive Res where
  | fl (f : Fl) (s : Sto) | exc (c : Nat) (e : En) (s : Sto) | bad
abbrev Sx := En → Sto → Res
structure Sl (Γ : Wd) (ρ : List Addr) (F : Hp) (env : En) (σ : St) : Prop where
  len : env.length = σ.length
  at_ : ∀ (i : Nat) (d : Dt), env[i]? = some (some d) → ∃ v : V, σ[i]? = some (some v) ∧ Den Γ ρ F d v
theorem Sl.mono {Γ : Wd} {ρ ρ1 : List Addr} {F F1 H H1 : Hp} {env : En} {σ : St} (h : Sl Γ ρ F env σ) (l : LE ρ F H ρ1 F1 H1) : Sl Γ ρ1 F1 env σ :=
  ⟨h.len, fun i d e => by obtain ⟨v, q, r⟩ := h.at_ i d e; exact ⟨v, q, Den.mono l d v r⟩⟩
theorem Sl.set {Γ : Wd} {ρ : List Addr} {F : Hp} {env : En} {σ : St} (h : Sl Γ ρ F env σ) {d : Dt} {v : V} (r : Den Γ ρ F d v) (i : Nat) : Sl Γ ρ F (env.set i (some d)) (σ.set i (some v)) := by
  refine ⟨by rw [List.length_set, List.length_set]; exact h.len, fun j e q => ?_⟩
  by_cases hj : i = j
  · subst hj
    have hl : i < env.length := by
      have := (List.getElem?_eq_some_iff.mp q).1
      rw [List.length_set] at this
      exact this
    rw [List.getElem?_set_self hl] at q
    have e1 : d = e := by injection q with q; injection q
    subst e1
    exact ⟨v, List.getElem?_set_self (by rw [← h.len]; exact hl), r⟩
  · rw [List.getElem?_set_ne hj] at q
    rw [List.getElem?_set_ne hj]
    exact h.at_ j e q
theorem Sl.unset {Γ : Wd} {ρ : List Addr} {F : Hp} {env : En} {σ : St} (h : Sl Γ ρ F env σ) (i : Nat) : Sl Γ ρ F (env.set i none) (σ.set i none) := by
  refine ⟨by rw [List.length_set, List.length_set]; exact h.len, fun j e q => ?_⟩
  by_cases hj : i = j
  · subst hj
    have hl : i < env.length := by
      have := (List.getElem?_eq_some_iff.mp q).1
      rw [List.length_set] at this
      exact this
    rw [List.getElem?_set_self hl] at q
    injection q with q
    cases q
  · rw [List.getElem?_set_ne hj] at q
    rw [List.getElem?_set_ne hj]
    exact h.at_ j e q
/-- what is to be shown behind an outcome -/
def Po {α β : Type} (Γ : Wd) (Rl : List Addr → Hp → α → β → Prop) (ρ : List Addr) (F H : Hp) (Q : β → Hp → Prop) (E : Value → Hp → Prop) : Out α → Prop
  | .ok d s => ∀ ρ' F' H' v, LE ρ F H ρ' F' H' → G Γ ρ' F' s H' → Rl ρ' F' d v → Q v H'
  | .exc c s => ∀ ρ' F' H' C, LE ρ F H ρ' F' H' → G Γ ρ' F' s H' → Γ.cl c C → E (.ref C) H'
  | .bad => False
abbrev EPo (Γ : Wd) := Po Γ (Den Γ)
abbrev APo (Γ : Wd) := Po Γ (Dens Γ)
abbrev BPo (Γ : Wd) := Po Γ (fun _ _ (a : Bool) (b : Bool) => a = b)
theorem Po.mono {α β : Type} {Γ : Wd} {Rl : List Addr → Hp → α → β → Prop} {ρ ρ1 : List Addr} {F F1 H H1 : Hp} {Q Q' : β → Hp → Prop} {E E' : Value → Hp → Prop} (l : LE ρ F H ρ1 F1 H1) (hq : ∀ v H, Q v H → Q' v H) (he : ∀ v H, E v H → E' v H) :
    ∀ {o : Out α}, Po Γ Rl ρ F H Q E o → Po Γ Rl ρ1 F1 H1 Q' E' o
  | .ok d s, h => fun ρ' F' H' v l' g r => hq _ _ (h ρ' F' H' v (l.trans l') g r)
  | .exc c s, h => fun ρ' F' H' C l' g r => he _ _ (h ρ' F' H' C (l.trans l') g r)
  | .bad, h => h
/-- one computation behind another -/
def bnd {α β : Type} (m : Sto → Out α) (k : α → Sto → Out β) (s : Sto) : Out β := match m s with
  | .ok a s' => k a s'
  | .exc c s' => .exc c s'
  | .bad => .bad
@[simp] theorem bnd_ok {α β : Type} {m : Sto → Out α} {k : α → Sto → Out β} {s s' : Sto} {a : α} (h : m s = .ok a s') : bnd m k s = k a s' := by unfold bnd; rw [h]
theorem Po.bind {α β γ δ : Type} {Γ : Wd} {R1 : List Addr → Hp → α → β → Prop} {R2 : List Addr → Hp → γ → δ → Prop} {ρ : List Addr} {F H : Hp} {Q : δ → Hp → Prop} {Q1 : β → Hp → Prop} {E : Value → Hp → Prop} {m : Sto → Out α} {k : α → Sto → Out γ} {s : Sto}
    (h : Po Γ R2 ρ F H Q E (bnd m k s)) (hk : ∀ a s' ρ' F' H' v, m s = .ok a s' → LE ρ F H ρ' F' H' → G Γ ρ' F' s' H' → R1 ρ' F' a v → Po Γ R2 ρ' F' H' Q E (k a s') → Q1 v H') : Po Γ R1 ρ F H Q1 E (m s) := by
  unfold bnd at h
  cases e : m s with
  | ok a s' =>
    rw [e] at h
    exact fun ρ' F' H' v l g r => hk a s' ρ' F' H' v e l g r (h.mono l (fun _ _ q => q) fun _ _ q => q)
  | exc c s' => rw [e] at h; exact h
  | bad => rw [e] at h; exact h
/-- the readings that a meaning gives -/
def tE (Γ : Wd) (W : WX) (f : Ex) : TE := fun σ H Q => ∃ env ρ F s, G Γ ρ F s H ∧ Sl Γ ρ F env σ ∧ EPo Γ ρ F H Q (fun c H' => W c none σ H') (f env s)
def tT (Γ : Wd) (W : WX) (f : Tx) : TT := fun σ H Q => ∃ env ρ F s, G Γ ρ F s H ∧ Sl Γ ρ F env σ ∧ BPo Γ ρ F H Q (fun c H' => W c none σ H') (f env s)
/-- several, from the left -/
def evs : List Ex → En → Sto → Out (List Dt)
  | [], _, s => .ok [] s
  | f :: fs, env, s => bnd (f env) (fun d => bnd (evs fs env) fun ds s => .ok (d :: ds) s) s
def tA (Γ : Wd) (W : WX) (f : List Ex) : TA := fun σ H Q => ∃ env ρ F s, G Γ ρ F s H ∧ Sl Γ ρ F env σ ∧ APo Γ ρ F H Q (fun c H' => W c none σ H') (evs f env s)
def FPo (Γ : Wd) (W : WX) (ρ : List Addr) (F H : Hp) (D : Ends) : Res → Prop
  | .fl (.nx e) s => ∀ ρ' F' H' σ, LE ρ F H ρ' F' H' → G Γ ρ' F' s H' → Sl Γ ρ' F' e σ → D.nx σ H'
  | .fl (.rt d) s => ∀ ρ' F' H' v, LE ρ F H ρ' F' H' → G Γ ρ' F' s H' → Den Γ ρ' F' d v → D.rt v H'
  | .fl (.bk e) s => ∀ ρ' F' H' σ, LE ρ F H ρ' F' H' → G Γ ρ' F' s H' → Sl Γ ρ' F' e σ → D.bk σ H'
  | .fl (.ct e) s => ∀ ρ' F' H' σ, LE ρ F H ρ' F' H' → G Γ ρ' F' s H' → Sl Γ ρ' F' e σ → D.ct σ H'
  | .exc c e s => ∀ ρ' F' H' σ C, LE ρ F H ρ' F' H' → G Γ ρ' F' s H' → Sl Γ ρ' F' e σ → Γ.cl c C → W (.ref C) none σ H'
  | .bad => False
def tS (Γ : Wd) (W : WX) (f : Sx) : TS := fun D σ H => ∃ env ρ F s, G Γ ρ F s H ∧ Sl Γ ρ F env σ ∧ FPo Γ W ρ F H D (f env s)
theorem FPo.le {Γ : Wd} {W : WX} {ρ ρ1 : List Addr} {F F1 H H1 : Hp} {D : Ends} (l : LE ρ F H ρ1 F1 H1) : ∀ {r : Res}, FPo Γ W ρ F H D r → FPo Γ W ρ1 F1 H1 D r
  | .fl (.nx e) s, h => fun ρ' F' H' σ l' g r => h ρ' F' H' σ (l.trans l') g r
  | .fl (.rt d) s, h => fun ρ' F' H' σ l' g r => h ρ' F' H' σ (l.trans l') g r
  | .fl (.bk e) s, h => fun ρ' F' H' σ l' g r => h ρ' F' H' σ (l.trans l') g r
  | .fl (.ct e) s, h => fun ρ' F' H' σ l' g r => h ρ' F' H' σ (l.trans l') g r
  | .exc c e s, h => fun ρ' F' H' σ C l' g r => h ρ' F' H' σ C (l.trans l') g r
  | .bad, h => h
theorem PE.imp {X : Cx} {e : Expr} {t t' : TE} (h : PE X e t) (k : ∀ σ H Q, t' σ H Q → t σ H Q) : PE X e t' := ⟨fun pins s σ H Q I q => h.run pins s σ H Q I (k σ H Q q)⟩
theorem PT.imp {X : Cx} {e : Expr} {t t' : TT} (h : PT X e t) (k : ∀ σ H Q, t' σ H Q → t σ H Q) : PT X e t' := ⟨fun pins s σ H Q I q => h.run pins s σ H Q I (k σ H Q q)⟩
theorem PW.imp {X : Cx} {e : Expr} {t t' : TT} (h : PW X e t) (k : ∀ σ H Q, t' σ H Q → t σ H Q) : PW X e t' := ⟨fun wh pins s σ H Q I q => h.run wh pins s σ H Q I (k σ H Q q)⟩
theorem PA.imp {X : Cx} {e : List Expr} {t t' : TA} (h : PA X e t) (k : ∀ σ H Q, t' σ H Q → t σ H Q) : PA X e t' := ⟨fun pos pins s σ H Q I q => h.run pos pins s σ H Q I (k σ H Q q)⟩
theorem PS.imp {X : Cx} {e : Stmt} {t t' : TS} (h : PS X e t) (k : ∀ D σ H, t' D σ H → t D σ H) : PS X e t' := ⟨fun pins s σ H D I q => h.run pins s σ H D I (k D σ H q)⟩
theorem PSs.imp {X : Cx} {e : List Stmt} {t t' : TS} (h : PSs X e t) (k : ∀ D σ H, t' D σ H → t D σ H) : PSs X e t' := ⟨fun pins s σ H D I q => h.run pins s σ H D I (k D σ H q)⟩
abbrev wd (J : Cn) (X : Cx) : Wd := ⟨X.K, X.mg, J⟩
abbrev ES (J : Cn) (X : Cx) (W : WX) (e : Expr) (f : Ex) : Prop := PE X e (tE (wd J X) W f)
abbrev TSo (J : Cn) (X : Cx) (W : WX) (e : Expr) (f : Tx) : Prop := PT X e (tT (wd J X) W f)
abbrev WSo (J : Cn) (X : Cx) (W : WX) (e : Expr) (f : Tx) : Prop := PW X e (tT (wd J X) W f)
abbrev ASo (J : Cn) (X : Cx) (W : WX) (e : List Expr) (f : List Ex) : Prop := PA X e (tA (wd J X) W f)
abbrev SS (J : Cn) (X : Cx) (W : WX) (e : Stmt) (f : Sx) : Prop := PS X e (tS (wd J X) W f)
abbrev SSs (J : Cn) (X : Cx) (W : WX) (e : List Stmt) (f : Sx) : Prop := PSs X e (tS (wd J X) W f)
end Pd
namespace Pd
open PySem L2
/-! ### reading data -/
def asL (s : Sto) : Dt → Option (List Dt)
  | .lst l => some l
  | .lsk l => some l
  | .obj i => match s[i]? with
    | some (.lst l) => some l
    | _ => none
  | _ => none
def asT : Dt → Option (List Dt)
  | .tup l => some l
  | _ => none
def asQ (s : Sto) (d : Dt) : Option (List Dt) := match d with
  | .tup l => some l
  | _ => asL s d
section
variable {Γ : Wd} {ρ : List Addr} {F H : Hp} {s : Sto}
theorem G.sqL (g : G Γ ρ F s H) {d : Dt} {v : V} {l : List Dt} (r : Den Γ ρ F d v) (h : asL s d = some l) : ∃ a xs, v = .ref a ∧ SqL Γ.K H a xs ∧ Dens Γ ρ F l xs ∧ l.length ≤ sizeLine := by
  cases d with
  | lst l' =>
    simp only [Den] at r
    simp only [asL, Option.some.injEq] at h
    subst h
    obtain ⟨z, a, xs, e, q, t⟩ := r
    exact ⟨a, xs, e, SqL.of (g.sub _ _ q), t, z⟩
  | lsk l' =>
    simp only [Den] at r
    simp only [asL, Option.some.injEq] at h
    subst h
    obtain ⟨z, a, xs, e, q, t⟩ := r
    exact ⟨a, xs, e, sqL_sub g.sub q, t, z⟩
  | obj i =>
    simp only [Den] at r
    obtain ⟨a, e, q⟩ := r
    simp only [asL] at h
    split at h
    · rename_i l' hs
      cases h
      obtain ⟨z, xs, ha, t⟩ := g.at_ i a _ q hs
      exact ⟨a, xs, e, SqL.of ha, t, z⟩
    · cases h
  | _ => simp [asL] at h
theorem G.sqT (g : G Γ ρ F s H) {d : Dt} {v : V} {l : List Dt} (r : Den Γ ρ F d v) (h : asT d = some l) : ∃ a xs, v = .ref a ∧ SqT Γ.K H a xs ∧ Dens Γ ρ F l xs ∧ l.length ≤ sizeLine := by
  cases d with
  | tup l' =>
    simp only [Den] at r
    simp only [asT, Option.some.injEq] at h
    subst h
    obtain ⟨z, a, xs, e, q, t⟩ := r
    exact ⟨a, xs, e, SqT.of (g.sub _ _ q), t, z⟩
  | _ => simp [asT] at h
theorem G.sqQ (g : G Γ ρ F s H) {d : Dt} {v : V} {l : List Dt} (r : Den Γ ρ F d v) (h : asQ s d = some l) : ∃ a xs, v = .ref a ∧ (SqL Γ.K H a xs ∨ SqT Γ.K H a xs) ∧ Dens Γ ρ F l xs ∧ l.length ≤ sizeLine := by
  cases d with
  | tup l' =>
    obtain ⟨a, xs, e, q, t⟩ := g.sqT r (l := l) (by simpa [asQ, asT] using h)
    exact ⟨a, xs, e, .inr q, t⟩
  | _ =>
    obtain ⟨a, xs, e, q, t⟩ := g.sqL r (l := l) (by simpa [asQ] using h)
    exact ⟨a, xs, e, .inl q, t⟩
theorem Dens.length : ∀ {ds : List Dt} {vs : List V}, Dens Γ ρ F ds vs → ds.length = vs.length
  | [], vs, h => by simp only [Dens] at h; rw [h]; rfl
  | d :: ds, vs, h => by
    simp only [Dens] at h
    obtain ⟨v, r, e, q, t⟩ := h
    rw [e, List.length_cons, List.length_cons, Dens.length t]
theorem Dens.get : ∀ {ds : List Dt} {vs : List V} {i : Nat} {d : Dt}, Dens Γ ρ F ds vs → ds[i]? = some d → ∃ v, vs[i]? = some v ∧ Den Γ ρ F d v
  | [], vs, i, d, h, e => by simp at e
  | d' :: ds, vs, i, d, h, e => by
    simp only [Dens] at h
    obtain ⟨v, r, e', q, t⟩ := h
    subst e'
    cases i with
    | zero => simp at e; subst e; exact ⟨v, rfl, q⟩
    | succ i =>
      obtain ⟨u, hu, q2⟩ := Dens.get (i := i) (d := d) t (by simpa using e)
      exact ⟨u, by simpa using hu, q2⟩
theorem Dens.back : ∀ {ds : List Dt} {vs : List V} {i : Nat} {v : V}, Dens Γ ρ F ds vs → vs[i]? = some v → ∃ d, ds[i]? = some d ∧ Den Γ ρ F d v
  | [], vs, i, d, h, e => by simp only [Dens] at h; subst h; simp at e
  | d' :: ds, vs, i, d, h, e => by
    simp only [Dens] at h
    obtain ⟨v, r, e', q, t⟩ := h
    subst e'
    cases i with
    | zero => simp at e; subst e; exact ⟨d', rfl, q⟩
    | succ i =>
      obtain ⟨u, hu, q2⟩ := Dens.back (i := i) (v := d) t (by simpa using e)
      exact ⟨u, by simpa using hu, q2⟩
theorem Dens.append : ∀ {ds es : List Dt} {vs us : List V}, Dens Γ ρ F ds vs → Dens Γ ρ F es us → Dens Γ ρ F (ds ++ es) (vs ++ us)
  | [], es, vs, us, h, k => by simp only [Dens] at h; subst h; exact k
  | d :: ds, es, vs, us, h, k => by
    simp only [Dens] at h
    obtain ⟨v, r, e, q, t⟩ := h
    subst e
    show Dens Γ ρ F (d :: (ds ++ es)) (v :: (r ++ us))
    simp only [Dens]
    exact ⟨v, _, rfl, q, Dens.append t k⟩
theorem Dens.one {d : Dt} {v : V} (h : Den Γ ρ F d v) : Dens Γ ρ F [d] [v] := by
  simp only [Dens]
  exact ⟨v, [], rfl, h, rfl⟩
theorem Dens.drop : ∀ {ds : List Dt} {vs : List V} (n : Nat), Dens Γ ρ F ds vs → Dens Γ ρ F (ds.drop n) (vs.drop n)
  | [], vs, n, h => by simp only [Dens] at h; subst h; simp [Dens]
  | d :: ds, vs, 0, h => h
  | d :: ds, vs, n + 1, h => by
    simp only [Dens] at h
    obtain ⟨v, r, e, q, t⟩ := h
    subst e
    exact Dens.drop n t
theorem Dens.take : ∀ {ds : List Dt} {vs : List V} (n : Nat), Dens Γ ρ F ds vs → Dens Γ ρ F (ds.take n) (vs.take n)
  | [], vs, n, h => by simp only [Dens] at h; subst h; simp [Dens]
  | d :: ds, vs, 0, h => by simp [Dens]
  | d :: ds, vs, n + 1, h => by
    simp only [Dens] at h
    obtain ⟨v, r, e, q, t⟩ := h
    subst e
    show Dens Γ ρ F (d :: ds.take n) (v :: r.take n)
    simp only [Dens]
    exact ⟨v, _, rfl, q, Dens.take n t⟩
theorem Dens.set {d : Dt} {v : V} (hd : Den Γ ρ F d v) : ∀ {ds : List Dt} {vs : List V} (n : Nat), Dens Γ ρ F ds vs → Dens Γ ρ F (ds.set n d) (vs.set n v)
  | [], vs, n, h => by simp only [Dens] at h; subst h; simp [Dens]
  | d' :: ds, vs, 0, h => by
    simp only [Dens] at h
    obtain ⟨v', r, e, q, t⟩ := h
    subst e
    show Dens Γ ρ F (d :: ds) (v :: r)
    simp only [Dens]
    exact ⟨v, _, rfl, hd, t⟩
  | d' :: ds, vs, n + 1, h => by
    simp only [Dens] at h
    obtain ⟨v', r, e, q, t⟩ := h
    subst e
    show Dens Γ ρ F (d' :: ds.set n d) (v' :: r.set n v)
    simp only [Dens]
    exact ⟨v', _, rfl, q, Dens.set hd n t⟩
theorem Dens.eraseIdx : ∀ {ds : List Dt} {vs : List V} (n : Nat), Dens Γ ρ F ds vs → Dens Γ ρ F (ds.eraseIdx n) (vs.eraseIdx n)
  | [], vs, n, h => by simp only [Dens] at h; subst h; simp [Dens]
  | d' :: ds, vs, 0, h => by
    simp only [Dens] at h
    obtain ⟨v', r, e, q, t⟩ := h
    subst e
    exact t
  | d' :: ds, vs, n + 1, h => by
    simp only [Dens] at h
    obtain ⟨v', r, e, q, t⟩ := h
    subst e
    show Dens Γ ρ F (d' :: ds.eraseIdx n) (v' :: r.eraseIdx n)
    simp only [Dens]
    exact ⟨v', _, rfl, q, Dens.eraseIdx n t⟩
end
/-! ### expressions -/
section
variable {J : Cn} {X : Cx} {W : WX} {a b c e : Expr} {es : List Expr} {fa fb fc : Ex} {pos : Pos}
def eVar (i : Nat) : Ex := fun env s => match env[i]? with
  | some (some d) => .ok d s
  | _ => .bad
theorem es_var {i : Nat} (h : PE X e (tVar i)) : ES J X W e (eVar i) := by
  refine PE.imp h fun σ H Q ⟨env, ρ, F, s, g, l, k⟩ => ?_
  unfold eVar at k
  split at k
  · rename_i d hd
    obtain ⟨v, q, r⟩ := l.at_ i d hd
    exact ⟨v, q, k ρ F H v LE.refl g r⟩
  · exact k.elim
def eC (d : Dt) : Ex := fun _ s => .ok d s
theorem es_c {d : Dt} {v : V} (h : PE X e (tC v)) (hd : ∀ ρ F, Den (wd J X) ρ F d v) : ES J X W e (eC d) :=
  PE.imp h fun σ H Q ⟨env, ρ, F, s, g, l, k⟩ => k ρ F H v LE.refl g (hd ρ F)
theorem es_int {i : Int} {j} : ES J X W (.Constant (.int i) j pos) (eC (.int i)) := es_c pe_int fun _ _ => by simp only [Den]
theorem es_bl {i : Bool} {j} : ES J X W (.Constant (.bool i) j pos) (eC (.bl i)) := es_c pe_bl fun _ _ => by simp only [Den]
theorem es_non {j} : ES J X W (.Constant .none j pos) (eC .non) := es_c pe_non fun _ _ => by simp only [Den]
theorem es_str {x : Str} {j} (h : sok x = true := by decide +kernel) : ES J X W (.Constant (.str x) j pos) (eC (.str x)) := es_c pe_str fun _ _ => by simp only [Den]; exact ⟨trivial, h⟩
theorem es_gint {x : Str} {i : Int} {t : Tok} (hg : Gl X x) (hm : X.mg x = some (.int i t)) (hd : (x == ("__debug__" : Str)) = false := by decide) : ES J X W (.Name x pos) (eC (.int i)) := es_c (v := .int i) (pe_glob hg hm ⟨t, rfl⟩ hd) fun _ _ => by simp only [Den]
theorem es_gstr {x z : Str} {t : Tok} (hg : Gl X x) (hm : X.mg x = some (.str z t)) (hz : sok z = true := by decide +kernel) (hd : (x == ("__debug__" : Str)) = false := by decide) : ES J X W (.Name x pos) (eC (.str z)) := es_c (v := .str z) (pe_glob hg hm ⟨t, rfl⟩ hd) fun _ _ => by simp only [Den]; exact ⟨trivial, hz⟩
/-- an operation of two places -/
def eOp (op : Dt → Dt → Sto → Out Dt) (fa fb : Ex) : Ex := fun env => bnd (fa env) fun x => bnd (fb env) fun y => op x y
def OpS (Γ : Wd) (r : R2) (op : Dt → Dt → Sto → Out Dt) : Prop := ∀ ρ F s H x y dx dy Q E, G Γ ρ F s H → Den Γ ρ F dx x → Den Γ ρ F dy y → EPo Γ ρ F H Q E (op dx dy s) → r x y H Q
theorem tE_op {Γ : Wd} {r : R2} {op : Dt → Dt → Sto → Out Dt} (ho : OpS Γ r op) {σ : St} {H : Hp} {Q : VK} (h : tE Γ W (eOp op fa fb) σ H Q) : tOp r (tE Γ W fa) (tE Γ W fb) σ H Q := by
  obtain ⟨env, ρ, F, s, g, l, k⟩ := h
  refine ⟨env, ρ, F, s, g, l, Po.bind k fun x s1 ρ1 F1 H1 v e1 l1 g1 r1 k1 => ?_⟩
  refine ⟨env, ρ1, F1, s1, g1, l.mono l1, Po.bind k1 fun y s2 ρ2 F2 H2 u e2 l2 g2 r2 k2 => ?_⟩
  exact ho ρ2 F2 s2 H2 v u x y Q _ g2 (Den.mono l2 _ _ r1) r2 k2
theorem es_op {op : Operator} {r : R2} {f : Dt → Dt → Sto → Out Dt} (hr : OpR X (binaryOp op) r) (ho : OpS (wd J X) r f) (ha : ES J X W a fa) (hb : ES J X W b fb) : ES J X W (.BinOp a op b pos) (eOp f fa fb) :=
  PE.imp (pe_op hr ha hb) fun _ _ _ h => tE_op ho h
/-- an operation of one place -/
def eUn (op : Dt → Sto → Out Dt) (fa : Ex) : Ex := fun env => bnd (fa env) op
def UnS (Γ : Wd) (r : V → Hp → VK → Prop) (op : Dt → Sto → Out Dt) : Prop := ∀ ρ F s H x dx Q E, G Γ ρ F s H → Den Γ ρ F dx x → EPo Γ ρ F H Q E (op dx s) → r x H Q
theorem es_un {op : UnaryOp} {r : V → Hp → VK → Prop} {f : Dt → Sto → Out Dt} (hr : UnR X (unaryOp op) r) (ho : UnS (wd J X) r f) (ha : ES J X W a fa) : ES J X W (.UnaryOp op a pos) (eUn f fa) :=
  PE.imp (pe_un hr ha) fun σ H Q ⟨env, ρ, F, s, g, l, k⟩ => ⟨env, ρ, F, s, g, l, Po.bind k fun x s1 ρ1 F1 H1 v e1 l1 g1 r1 k1 => ho ρ1 F1 s1 H1 v x Q _ g1 r1 k1⟩
/-! ints -/
def iOp (g : Int → Int → Dt) (ok : Int → Int → Bool) : Dt → Dt → Sto → Out Dt
  | .int i, .int j, s => if ok i j then .ok (g i j) s else .bad
  | _, _, _ => .bad
theorem iOp_some {Γ : Wd} {C : Int → Int → Prop} {gv : Int → Int → V} {gd : Int → Int → Dt} {ok : Int → Int → Bool} (hc : ∀ i j, ok i j = true → C i j) (hd : ∀ ρ F i j, Den Γ ρ F (gd i j) (gv i j)) : OpS Γ (rI C gv) (iOp gd ok) := by
  intro ρ F s H x y dx dy Q E g rx ry k
  cases dx with
  | int i =>
    cases dy with
    | int j =>
      simp only [Den] at rx ry
      simp only [iOp] at k
      split at k
      · rename_i h
        exact ⟨i, j, rx, ry, hc _ _ h, k ρ F H _ LE.refl g (hd ρ F i j)⟩
      · exact k.elim
    | _ => exact False.elim k
  | _ => exact False.elim k
theorem iOp_all {Γ : Wd} {gv : Int → Int → V} {gd : Int → Int → Dt} (hd : ∀ ρ F i j, Den Γ ρ F (gd i j) (gv i j)) : OpS Γ (rI0 gv) (iOp gd fun _ _ => true) := by
  intro ρ F s H x y dx dy Q E g rx ry k
  cases dx with
  | int i =>
    cases dy with
    | int j =>
      simp only [Den] at rx ry
      exact ⟨i, j, rx, ry, k ρ F H _ LE.refl g (hd ρ F i j)⟩
    | _ => exact False.elim k
  | _ => exact False.elim k
abbrev dSub := iOp (fun i j => .int (i - j)) fun _ _ => true
abbrev dMul := iOp (fun i j => .int (i * j)) fun i j => decide ((-(2 ^ 64) < i ∧ i < 2 ^ 64) ∨ (-(2 ^ 64) < j ∧ j < 2 ^ 64))
abbrev dFdv := iOp (fun i j => .int (i / j)) fun _ j => decide (0 < j ∧ j < 1073741824)
abbrev dMod := iOp (fun i j => .int (i % j)) fun _ j => decide (0 < j)
abbrev dPow := iOp (fun i j => .int (i ^ j.toNat)) fun i j => decide (0 ≤ j ∧ j ≤ 1000000 ∧ i.natAbs < 2 ^ 64)
abbrev dLt := iOp (fun i j => .bl (decide (i < j))) fun _ _ => true
abbrev dLe := iOp (fun i j => .bl (decide (i ≤ j))) fun _ _ => true
abbrev dGt := iOp (fun i j => .bl (decide (j < i))) fun _ _ => true
abbrev dGe := iOp (fun i j => .bl (decide (j ≤ i))) fun _ _ => true
theorem es_sub (ha : ES J X W a fa) (hb : ES J X W b fb) : ES J X W (.BinOp a .Sub b pos) (eOp dSub fa fb) := es_op op_sub (iOp_all fun _ _ _ _ => by simp only [Den]) ha hb
theorem es_mul (ha : ES J X W a fa) (hb : ES J X W b fb) : ES J X W (.BinOp a .Mult b pos) (eOp dMul fa fb) := es_op op_mul (iOp_some (fun _ _ h => by simpa [CMul] using h) fun _ _ _ _ => by simp only [Den]) ha hb
theorem es_fdv (ha : ES J X W a fa) (hb : ES J X W b fb) : ES J X W (.BinOp a .FloorDiv b pos) (eOp dFdv fa fb) := es_op op_fdiv (iOp_some (fun _ _ h => by simpa [CDiv] using h) fun _ _ _ _ => by simp only [Den]) ha hb
theorem es_mod (ha : ES J X W a fa) (hb : ES J X W b fb) : ES J X W (.BinOp a .Mod b pos) (eOp dMod fa fb) := es_op op_mod (iOp_some (fun _ _ h => of_decide_eq_true h) fun _ _ _ _ => by simp only [Den]) ha hb
theorem es_pow (ha : ES J X W a fa) (hb : ES J X W b fb) : ES J X W (.BinOp a .Pow b pos) (eOp dPow fa fb) := es_op op_pow (iOp_some (fun _ _ h => by simpa [CPow] using h) fun _ _ _ _ => by simp only [Den]) ha hb
/-- a comparison that is known -/
def CmpOk (J : Cn) (X : Cx) (op : CmpOp) (f : Dt → Dt → Sto → Out Dt) : Prop := ∃ r, OpR X (compareOp op) r ∧ OpS (wd J X) r f
theorem c_lt : CmpOk J X .Lt dLt := ⟨_, op_lt, iOp_all fun _ _ _ _ => by simp only [Den]⟩
theorem c_le : CmpOk J X .LtE dLe := ⟨_, op_le, iOp_all fun _ _ _ _ => by simp only [Den]⟩
theorem c_gt : CmpOk J X .Gt dGt := ⟨_, op_gt, iOp_all fun _ _ _ _ => by simp only [Den]⟩
theorem c_ge : CmpOk J X .GtE dGe := ⟨_, op_ge, iOp_all fun _ _ _ _ => by simp only [Den]⟩
theorem es_cmp {op : CmpOp} {f : Dt → Dt → Sto → Out Dt} (h : CmpOk J X op f) (ha : ES J X W a fa) (hb : ES J X W b fb) (hm : behindInMarks op b = false := by rfl) : ES J X W (.Compare a [op] [b] pos) (eOp f fa fb) := by
  obtain ⟨r, hr, ho⟩ := h
  exact PE.imp (pe_cmpR hr ha hb hm) fun _ _ _ h => tE_op ho h
def dNeg : Dt → Sto → Out Dt
  | .int i, s => .ok (.int (-i)) s
  | _, _ => .bad
theorem es_neg (ha : ES J X W a fa) : ES J X W (.UnaryOp .USub a pos) (eUn dNeg fa) := es_un un_neg (fun ρ F s H x dx Q E g rx k => by
  unfold dNeg at k
  split at k
  · rename_i i
    simp only [Den] at rx
    exact ⟨i, rx, k ρ F H _ LE.refl g (by simp only [Den])⟩
  · exact k.elim) ha
/-! None -/
def isNon : Dt → Bool
  | .non => true
  | _ => false
theorem Den.isNon {Γ : Wd} {ρ : List Addr} {F : Hp} {d : Dt} {v : V} (r : Den Γ ρ F d v) : decide (v = .non) = Pd.isNon d := by
  cases d <;> simp only [Den] at r
  case tup => obtain ⟨_, a, xs, e, _⟩ := r; subst e; rfl
  case lst => obtain ⟨_, a, xs, e, _⟩ := r; subst e; rfl
  case lsk => obtain ⟨_, a, xs, e, _⟩ := r; subst e; rfl
  case obj => obtain ⟨a, e, _⟩ := r; subst e; rfl
  case exc => obtain ⟨a, xs, e, _⟩ := r; subst e; rfl
  case str => obtain ⟨e, _⟩ := r; subst e; rfl
  all_goals (subst r; rfl)
def dIsN (d : Dt) (s : Sto) : Out Dt := .ok (.bl (isNon d)) s
def dNotN (d : Dt) (s : Sto) : Out Dt := .ok (.bl (!isNon d)) s
theorem es_isN {j pos'} (ha : ES J X W a fa) : ES J X W (.Compare a [.Is] [.Constant .none j pos'] pos) (eUn dIsN fa) :=
  PE.imp (pe_cmp (pc_isN ha) (nobehind _ (by decide) (by decide))) fun σ H Q ⟨env, ρ, F, s, g, l, k⟩ => ⟨env, ρ, F, s, g, l, Po.bind k fun x s1 ρ1 F1 H1 v e1 l1 g1 r1 k1 => by
    rw [r1.isNon]
    exact k1 ρ1 F1 H1 _ LE.refl g1 (by simp only [Den])⟩
theorem es_notN {j pos'} (ha : ES J X W a fa) : ES J X W (.Compare a [.IsNot] [.Constant .none j pos'] pos) (eUn dNotN fa) :=
  PE.imp (pe_cmp (pc_notN ha) (nobehind _ (by decide) (by decide))) fun σ H Q ⟨env, ρ, F, s, g, l, k⟩ => ⟨env, ρ, F, s, g, l, Po.bind k fun x s1 ρ1 F1 H1 v e1 l1 g1 r1 k1 => by
    rw [r1.isNon]
    exact k1 ρ1 F1 H1 _ LE.refl g1 (by simp only [Den])⟩
end
end Pd
namespace Pd
open PySem L2
/-! ### data as the model compares it -/
mutual
def toPy : Dt → Option PyData
  | .non => some .none
  | .bl b => some (.bool b)
  | .int i => some (.int i)
  | .str x => some (.str x)
  | .tup l => (toPys l).map .tuple
  | .lst l => (toPys l).map .list
  | .lsk l => (toPys l).map .list
  | .obj _ => none
  | .exc _ => none
def toPys : List Dt → Option (List PyData)
  | [] => some []
  | d :: ds => match toPy d, toPys ds with
    | some a, some b => some (a :: b)
    | _, _ => none
end
def toPyS (s : Sto) (d : Dt) : Option PyData := match d with
  | .obj i => match s[i]? with
    | some (.lst l) => (toPys l).map .list
    | _ => none
  | d => toPy d
section
variable {Γ : Wd} {ρ : List Addr} {F H : Hp} {s : Sto}
mutual
theorem Den.dp (g : ∀ a o, F a = some o → H a = some o) : ∀ (d : Dt) (v : V) (p : PyData), Den Γ ρ F d v → toPy d = some p → Dp Γ.K H v p ∧ p.canLay0 = true
  | .non, v, p, h, e => by simp only [Den] at h; simp only [toPy, Option.some.injEq] at e; subst h; subst e; exact ⟨.non, rfl⟩
  | .bl b, v, p, h, e => by simp only [Den] at h; simp only [toPy, Option.some.injEq] at e; subst h; subst e; exact ⟨.bl b, rfl⟩
  | .int i, v, p, h, e => by simp only [Den] at h; simp only [toPy, Option.some.injEq] at e; subst h; subst e; exact ⟨.int i, rfl⟩
  | .str x, v, p, h, e => by
    simp only [Den] at h; simp only [toPy, Option.some.injEq] at e
    obtain ⟨h, k⟩ := h
    subst h; subst e
    unfold sok at k
    simp only [Bool.and_eq_true] at k
    exact ⟨.str x, k.1⟩
  | .tup l, v, p, h, e => by
    simp only [Den] at h; simp only [toPy, Option.map_eq_some_iff] at e
    obtain ⟨z, a, xs, e1, q, t⟩ := h
    obtain ⟨ps, e2, e3⟩ := e
    subst e1; subst e3
    obtain ⟨r1, r2⟩ := Dens.dp g l xs ps t e2
    exact ⟨.tup (SqT.of (g _ _ q)) r1, r2⟩
  | .lst l, v, p, h, e => by
    simp only [Den] at h; simp only [toPy, Option.map_eq_some_iff] at e
    obtain ⟨z, a, xs, e1, q, t⟩ := h
    obtain ⟨ps, e2, e3⟩ := e
    subst e1; subst e3
    obtain ⟨r1, r2⟩ := Dens.dp g l xs ps t e2
    exact ⟨.lst (SqL.of (g _ _ q)) r1, r2⟩
  | .lsk l, v, p, h, e => by
    simp only [Den] at h; simp only [toPy, Option.map_eq_some_iff] at e
    obtain ⟨z, a, xs, e1, q, t⟩ := h
    obtain ⟨ps, e2, e3⟩ := e
    subst e1; subst e3
    obtain ⟨r1, r2⟩ := Dens.dp g l xs ps t e2
    exact ⟨.lst (sqL_sub g q) r1, r2⟩
  | .obj _, v, p, h, e => by simp [toPy] at e
  | .exc _, v, p, h, e => by simp [toPy] at e
theorem Dens.dp (g : ∀ a o, F a = some o → H a = some o) : ∀ (d : List Dt) (v : List V) (p : List PyData), Dens Γ ρ F d v → toPys d = some p → DpAll Γ.K H v p ∧ PyData.canLayAll0 p = true
  | [], v, p, h, e => by
    simp only [Dens] at h; simp only [toPys, Option.some.injEq] at e
    subst h; subst e
    exact ⟨.nil, rfl⟩
  | d :: ds, v, p, h, e => by
    simp only [Dens] at h; simp only [toPys] at e
    obtain ⟨w, r, e1, q, t⟩ := h
    subst e1
    split at e
    · rename_i a b ha hb
      cases e
      obtain ⟨r1, r2⟩ := Den.dp g d w a q ha
      obtain ⟨r3, r4⟩ := Dens.dp g ds r b t hb
      exact ⟨.cons r1 r3, by simp only [PyData.canLayAll0, r2, r4, Bool.and_self]⟩
    · cases e
end
theorem G.dp (g : G Γ ρ F s H) {d : Dt} {v : V} {p : PyData} (h : Den Γ ρ F d v) (e : toPyS s d = some p) : Dp Γ.K H v p ∧ p.canLay0 = true := by
  cases d with
  | obj i =>
    simp only [Den] at h
    obtain ⟨a, e1, q⟩ := h
    simp only [toPyS] at e
    split at e
    · rename_i l hs
      simp only [Option.map_eq_some_iff] at e
      obtain ⟨ps, e2, e3⟩ := e
      subst e3; subst e1
      obtain ⟨z, xs, hx, t⟩ := g.at_ i a _ q hs
      obtain ⟨r1, r2⟩ := Dens.dp g.sub l xs ps t e2
      exact ⟨.lst (SqL.of hx) r1, r2⟩
    · cases e
  | _ => exact Den.dp g.sub _ v p h e
end
theorem shaped_of {p : PyData} (h1 : p.canLay0 = true) (h2 : p.depth ≤ 64) : SeqAt.shaped p = true := by
  unfold SeqAt.shaped
  rw [h1, Bool.true_and]
  exact decide_eq_true h2
def dEqB (s : Sto) (x y : Dt) : Option Bool := match toPyS s x, toPyS s y with
  | some a, some b => if a.depth ≤ 64 ∧ b.depth ≤ 64 then some (PyData.eqv a b) else none
  | _, _ => none
def ofO (s : Sto) : Option Dt → Out Dt
  | some d => .ok d s
  | none => .bad
def dEq (x y : Dt) (s : Sto) : Out Dt := ofO s ((dEqB s x y).map .bl)
def dNe (x y : Dt) (s : Sto) : Out Dt := ofO s ((dEqB s x y).map fun b => .bl (!b))
theorem dEqB_of {Γ : Wd} {ρ : List Addr} {F H : Hp} {s : Sto} (g : G Γ ρ F s H) {x y : Dt} {u v : V} {c : Bool} (hx : Den Γ ρ F x u) (hy : Den Γ ρ F y v) (e : dEqB s x y = some c) :
    ∃ a b, Dp Γ.K H u a ∧ Dp Γ.K H v b ∧ SeqAt.shaped a = true ∧ SeqAt.shaped b = true ∧ c = PyData.eqv a b := by
  unfold dEqB at e
  split at e
  · rename_i a b ha hb
    split at e
    · rename_i hd
      cases e
      obtain ⟨r1, r2⟩ := g.dp hx ha
      obtain ⟨r3, r4⟩ := g.dp hy hb
      exact ⟨a, b, r1, r3, shaped_of r2 hd.1, shaped_of r4 hd.2, rfl⟩
    · cases e
  · cases e
section
variable {J : Cn} {X : Cx} {W : WX} {a b c e : Expr} {es : List Expr} {fa fb fc : Ex} {fs : List Ex} {ft fu : Tx} {pos : Pos}
theorem Po.ofO {Γ : Wd} {ρ : List Addr} {F H : Hp} {Q : VK} {E : Value → Hp → Prop} {s : Sto} {o : Option Dt} (h : EPo Γ ρ F H Q E (ofO s o)) : ∃ d, o = some d ∧ EPo Γ ρ F H Q E (.ok d s) := by
  cases o with
  | none => exact False.elim h
  | some d => exact ⟨d, rfl, h⟩
theorem c_eq (hu : X.A.units + 64 < cLine) : CmpOk J X .Eq dEq := ⟨_, op_eqD hu, fun ρ F s H x y dx dy Q E g rx ry k => by
  obtain ⟨d, e, k⟩ := k.ofO
  obtain ⟨c, e1, e2⟩ := Option.map_eq_some_iff.mp e
  subst e2
  obtain ⟨p, q, r1, r2, s1, s2, e3⟩ := dEqB_of g rx ry e1
  refine ⟨p, q, r1, r2, s1, s2, ?_⟩
  rw [← e3]
  exact k ρ F H _ LE.refl g (by simp only [Den])⟩
theorem c_ne (hu : X.A.units + 64 < cLine) : CmpOk J X .NotEq dNe := ⟨_, op_neD hu, fun ρ F s H x y dx dy Q E g rx ry k => by
  obtain ⟨d, e, k⟩ := k.ofO
  obtain ⟨c, e1, e2⟩ := Option.map_eq_some_iff.mp e
  subst e2
  obtain ⟨p, q, r1, r2, s1, s2, e3⟩ := dEqB_of g rx ry e1
  refine ⟨p, q, r1, r2, s1, s2, ?_⟩
  rw [← e3]
  exact k ρ F H _ LE.refl g (by simp only [Den])⟩
/-! truth -/
def truD (s : Sto) : Dt → Option Bool
  | .non => some false
  | .bl b => some b
  | .int i => some (i != 0)
  | .str x => some ((x.length : Int) != 0)
  | .tup l => some (!l.isEmpty)
  | .lst l => some (!l.isEmpty)
  | .lsk l => some (!l.isEmpty)
  | .obj i => match s[i]? with
    | some (.lst l) => some (!l.isEmpty)
    | some (.dic kvs) => some (!kvs.isEmpty)
    | _ => none
  | .exc _ => none
theorem Dens.isEmpty {Γ : Wd} {ρ : List Addr} {F : Hp} {l : List Dt} {xs : List V} (h : Dens Γ ρ F l xs) : xs.isEmpty = l.isEmpty := by
  have e := h.length
  cases l <;> cases xs <;> simp_all
theorem DenK.length {κ : Type} {Γ : Wd} {ρ : List Addr} {F : Hp} : ∀ {l : List (κ × Dt)} {xs : List (κ × V)}, DenK Γ ρ F l xs → l.length = xs.length
  | [], xs, h => by rw [show xs = [] from h]; rfl
  | (k, d) :: l, xs, h => by
    obtain ⟨v, r, e, q, t⟩ := h
    rw [e, List.length_cons, List.length_cons, DenK.length t]
theorem DenK.isEmpty {κ : Type} {Γ : Wd} {ρ : List Addr} {F : Hp} {l : List (κ × Dt)} {xs : List (κ × V)} (h : DenK Γ ρ F l xs) : xs.isEmpty = l.isEmpty := by
  have e := h.length
  cases l <;> cases xs <;> simp_all
theorem sok_len {x : Str} (h : sok x = true) : x.length ≤ sizeLine := by
  unfold sok at h
  simp only [Bool.and_eq_true, decide_eq_true_eq] at h
  rw [sizeLine_eq]
  omega
theorem G.tru {Γ : Wd} {ρ : List Addr} {F H : Hp} {s : Sto} (g : G Γ ρ F s H) {d : Dt} {v : V} {k : Bool} (h : Den Γ ρ F d v) (e : truD s d = some k) : TruV Γ.K v H k := by
  cases d with
  | non => simp only [Den] at h; simp only [truD, Option.some.injEq] at e; subst h; subst e; exact rfl
  | bl b => simp only [Den] at h; simp only [truD, Option.some.injEq] at e; subst h; subst e; exact rfl
  | int i => simp only [Den] at h; simp only [truD, Option.some.injEq] at e; subst h; subst e; exact rfl
  | str x =>
    simp only [Den] at h; simp only [truD, Option.some.injEq] at e
    obtain ⟨h, hk⟩ := h
    subst h; subst e
    exact ⟨sok_len hk, rfl⟩
  | tup l =>
    simp only [truD, Option.some.injEq] at e; subst e
    obtain ⟨a, xs, e1, q, t, _⟩ := g.sqT h (l := l) rfl
    subst e1
    exact .inr (.inl ⟨xs, q, by rw [t.isEmpty]⟩)
  | lst l =>
    simp only [truD, Option.some.injEq] at e; subst e
    obtain ⟨a, xs, e1, q, t, _⟩ := g.sqL h (l := l) rfl
    subst e1
    exact .inl ⟨xs, q, by rw [t.isEmpty]⟩
  | lsk l =>
    simp only [truD, Option.some.injEq] at e; subst e
    obtain ⟨a, xs, e1, q, t, _⟩ := g.sqL h (l := l) rfl
    subst e1
    exact .inl ⟨xs, q, by rw [t.isEmpty]⟩
  | obj i =>
    simp only [Den] at h
    obtain ⟨a, e1, q⟩ := h
    subst e1
    simp only [truD] at e
    split at e
    · rename_i l hs
      cases e
      obtain ⟨z, xs, hx, t⟩ := g.at_ i a _ q hs
      exact .inl ⟨xs, SqL.of hx, by rw [t.isEmpty]⟩
    · rename_i l hs
      cases e
      obtain ⟨z, xs, hx, t⟩ := g.at_ i a _ q hs
      exact .inr (.inr ⟨xs, hx, by rw [t.isEmpty]⟩)
    · cases e
  | exc c => simp [truD] at e
def ofB (s : Sto) : Option Bool → Out Bool
  | some d => .ok d s
  | none => .bad
def tTru (f : Ex) : Tx := fun env => bnd (f env) fun d s => ofB s (truD s d)
theorem ts_tru (ha : ES J X W a fa) (he : ∀ whole, isTrue a X.env whole = (do let v ← whole; standAt a.pos; holding [v] (truthy v)) := by intro _; rfl) : TSo J X W a (tTru fa) :=
  PT.imp (pt_truth ha he) fun σ H Q ⟨env, ρ, F, s, g, l, k⟩ => ⟨env, ρ, F, s, g, l, Po.bind k fun x s1 ρ1 F1 H1 v e1 l1 g1 r1 k1 => by
    cases e : truD s1 x with
    | none => rw [e] at k1; exact False.elim k1
    | some b => rw [e] at k1; exact ⟨b, g1.tru r1 e, k1 ρ1 F1 H1 b LE.refl g1 rfl⟩⟩
def tBl (f : Ex) : Tx := fun env => bnd (f env) fun d s => match d with
  | .bl b => .ok b s
  | _ => .bad
/-- a value that is a truth, as a test, by a rule of its own -/
theorem tT_bl {Γ : Wd} {σ : St} {H : Hp} {Q : Bool → Hp → Prop} (h : tT Γ W (tBl fa) σ H Q) : tE Γ W fa σ H fun x H' => ∃ k, x = .bl k ∧ Q k H' := by
  obtain ⟨env, ρ, F, s, g, l, k⟩ := h
  refine ⟨env, ρ, F, s, g, l, Po.bind k fun x s1 ρ1 F1 H1 v e1 l1 g1 r1 k1 => ?_⟩
  cases x with
  | bl b => simp only [Den] at r1; exact ⟨b, r1, k1 ρ1 F1 H1 b LE.refl g1 rfl⟩
  | _ => exact False.elim k1
theorem ts_cmp {op : CmpOp} {f : Dt → Dt → Sto → Out Dt} (h : CmpOk J X op f) (ha : ES J X W a fa) (hb : ES J X W b fb) (hm : behindInMarks op b = false := by rfl) : TSo J X W (.Compare a [op] [b] pos) (tBl (eOp f fa fb)) := by
  obtain ⟨r, hr, ho⟩ := h
  exact PT.imp (pt_cmpR hr ha hb hm) fun σ H Q h => tE_op (Q := fun x H' => ∃ k, x = .bl k ∧ Q k H') ho (tT_bl h)
theorem ts_isN {j pos'} (ha : ES J X W a fa) : TSo J X W (.Compare a [.Is] [.Constant .none j pos'] pos) (tBl (eUn dIsN fa)) :=
  PT.imp (pt_cmp (pc_isN ha) (nobehind _ (by decide) (by decide))) fun σ H Q h => by
    obtain ⟨env, ρ, F, s, g, l, k⟩ := tT_bl h
    exact ⟨env, ρ, F, s, g, l, Po.bind k fun x s1 ρ1 F1 H1 v e1 l1 g1 r1 k1 => by
      rw [r1.isNon]
      exact k1 ρ1 F1 H1 _ LE.refl g1 (by simp only [Den])⟩
theorem ts_notN {j pos'} (ha : ES J X W a fa) : TSo J X W (.Compare a [.IsNot] [.Constant .none j pos'] pos) (tBl (eUn dNotN fa)) :=
  PT.imp (pt_cmp (pc_notN ha) (nobehind _ (by decide) (by decide))) fun σ H Q h => by
    obtain ⟨env, ρ, F, s, g, l, k⟩ := tT_bl h
    exact ⟨env, ρ, F, s, g, l, Po.bind k fun x s1 ρ1 F1 H1 v e1 l1 g1 r1 k1 => by
      rw [r1.isNon]
      exact k1 ρ1 F1 H1 _ LE.refl g1 (by simp only [Den])⟩
def tAnd (ft fu : Tx) : Tx := fun env => bnd (ft env) fun c s => if c = true then fu env s else .ok false s
def tOr (ft fu : Tx) : Tx := fun env => bnd (ft env) fun c s => if c = true then .ok true s else fu env s
def tNot (ft : Tx) : Tx := fun env => bnd (ft env) fun c s => .ok (!c) s
theorem ws_and1 (ha : TSo J X W a ft) : WSo J X W (.BoolOp .And [a] pos) ft := pw_and1 ha
theorem ws_or1 (ha : TSo J X W a ft) : WSo J X W (.BoolOp .Or [a] pos) ft := pw_or1 ha
theorem ws_and {rest : List Expr} (ha : TSo J X W a ft) (hb : WSo J X W (.BoolOp .And (b :: rest) pos) fu) : WSo J X W (.BoolOp .And (a :: b :: rest) pos) (tAnd ft fu) :=
  PW.imp (pw_and ha hb) fun σ H Q ⟨env, ρ, F, s, g, l, k⟩ => ⟨env, ρ, F, s, g, l, Po.bind k fun x s1 ρ1 F1 H1 v e1 l1 g1 r1 k1 => by
    subst r1
    cases x with
    | true => exact ⟨env, ρ1, F1, s1, g1, l.mono l1, k1⟩
    | false => exact k1 ρ1 F1 H1 false LE.refl g1 rfl⟩
theorem ws_or {rest : List Expr} (ha : TSo J X W a ft) (hb : WSo J X W (.BoolOp .Or (b :: rest) pos) fu) : WSo J X W (.BoolOp .Or (a :: b :: rest) pos) (tOr ft fu) :=
  PW.imp (pw_or ha hb) fun σ H Q ⟨env, ρ, F, s, g, l, k⟩ => ⟨env, ρ, F, s, g, l, Po.bind k fun x s1 ρ1 F1 H1 v e1 l1 g1 r1 k1 => by
    subst r1
    cases x with
    | true => exact k1 ρ1 F1 H1 true LE.refl g1 rfl
    | false => exact ⟨env, ρ1, F1, s1, g1, l.mono l1, k1⟩⟩
theorem ts_w (h : WSo J X W e ft) : TSo J X W e ft := h.pt
theorem ts_not (ha : TSo J X W a ft) : TSo J X W (.UnaryOp .Not a pos) (tNot ft) :=
  PT.imp (pt_not ha) fun σ H Q ⟨env, ρ, F, s, g, l, k⟩ => ⟨env, ρ, F, s, g, l, Po.bind k fun x s1 ρ1 F1 H1 v e1 l1 g1 r1 k1 => by
    subst r1
    exact k1 ρ1 F1 H1 _ LE.refl g1 rfl⟩
/-! and, or, not as values -/
def eAnd (fa fb : Ex) : Ex := fun env => bnd (fa env) fun d s => match truD s d with
  | some true => fb env s
  | some false => .ok d s
  | none => .bad
def eOr (fa fb : Ex) : Ex := fun env => bnd (fa env) fun d s => match truD s d with
  | some true => .ok d s
  | some false => fb env s
  | none => .bad
def eNot (fa : Ex) : Ex := fun env => bnd (fa env) fun d s => ofO s ((truD s d).map fun b => .bl (!b))
theorem es_one {op} (h : ES J X W a fa) : ES J X W (.BoolOp op [a] pos) fa := pe_one h
theorem es_and {rest : List Expr} (ha : ES J X W a fa) (hb : ES J X W (.BoolOp .And (b :: rest) pos) fb) : ES J X W (.BoolOp .And (a :: b :: rest) pos) (eAnd fa fb) :=
  PE.imp (pe_andT ha hb) fun σ H Q ⟨env, ρ, F, s, g, l, k⟩ => ⟨env, ρ, F, s, g, l, Po.bind k fun x s1 ρ1 F1 H1 v e1 l1 g1 r1 k1 => by
    cases e : truD s1 x with
    | none => rw [e] at k1; exact False.elim k1
    | some b =>
      rw [e] at k1
      refine ⟨b, g1.tru r1 e, ?_⟩
      cases b with
      | true => exact ⟨env, ρ1, F1, s1, g1, l.mono l1, k1⟩
      | false => exact k1 ρ1 F1 H1 v LE.refl g1 r1⟩
theorem es_or {rest : List Expr} (ha : ES J X W a fa) (hb : ES J X W (.BoolOp .Or (b :: rest) pos) fb) : ES J X W (.BoolOp .Or (a :: b :: rest) pos) (eOr fa fb) :=
  PE.imp (pe_orT ha hb) fun σ H Q ⟨env, ρ, F, s, g, l, k⟩ => ⟨env, ρ, F, s, g, l, Po.bind k fun x s1 ρ1 F1 H1 v e1 l1 g1 r1 k1 => by
    cases e : truD s1 x with
    | none => rw [e] at k1; exact False.elim k1
    | some b =>
      rw [e] at k1
      refine ⟨b, g1.tru r1 e, ?_⟩
      cases b with
      | true => exact k1 ρ1 F1 H1 v LE.refl g1 r1
      | false => exact ⟨env, ρ1, F1, s1, g1, l.mono l1, k1⟩⟩
theorem es_not (ha : ES J X W a fa) : ES J X W (.UnaryOp .Not a pos) (eNot fa) :=
  PE.imp (pe_notT ha) fun σ H Q ⟨env, ρ, F, s, g, l, k⟩ => ⟨env, ρ, F, s, g, l, Po.bind k fun x s1 ρ1 F1 H1 v e1 l1 g1 r1 k1 => by
    obtain ⟨d, e, k1⟩ := Po.ofO k1
    obtain ⟨b, e2, e3⟩ := Option.map_eq_some_iff.mp e
    subst e3
    exact ⟨b, g1.tru r1 e2, k1 ρ1 F1 H1 _ LE.refl g1 (by simp only [Den])⟩⟩
def eIf (ft : Tx) (fa fb : Ex) : Ex := fun env => bnd (ft env) fun c s => if c = true then fa env s else fb env s
theorem es_if (hc : TSo J X W c ft) (ha : ES J X W a fa) (hb : ES J X W b fb) : ES J X W (.IfExp c a b pos) (eIf ft fa fb) :=
  PE.imp (pe_ifExp hc ha hb) fun σ H Q ⟨env, ρ, F, s, g, l, k⟩ => ⟨env, ρ, F, s, g, l, Po.bind k fun x s1 ρ1 F1 H1 v e1 l1 g1 r1 k1 => by
    subst r1
    cases x with
    | true => exact ⟨env, ρ1, F1, s1, g1, l.mono l1, k1⟩
    | false => exact ⟨env, ρ1, F1, s1, g1, l.mono l1, k1⟩⟩
/-- a op b op' c -/
def eChain (op op' : Dt → Dt → Sto → Out Dt) (fa fb fc : Ex) : Ex := fun env => bnd (fa env) fun x => bnd (fb env) fun y => bnd (op x y) fun z s => match z with
  | .bl true => bnd (fc env) (fun w => op' y w) s
  | .bl false => .ok (.bl false) s
  | _ => .bad
theorem tE_chain {Γ : Wd} {r r' : R2} {op op' : Dt → Dt → Sto → Out Dt} (ho : OpS Γ r op) (ho' : OpS Γ r' op') {σ : St} {H : Hp} {Q : VK} (h : tE Γ W (eChain op op' fa fb fc) σ H Q) : tChain r r' (tE Γ W fa) (tE Γ W fb) (tE Γ W fc) σ H Q := by
  obtain ⟨env, ρ, F, s, g, l, k⟩ := h
  refine ⟨env, ρ, F, s, g, l, Po.bind k fun x s1 ρ1 F1 H1 v e1 l1 g1 r1 k1 => ?_⟩
  refine ⟨env, ρ1, F1, s1, g1, l.mono l1, Po.bind k1 fun y s2 ρ2 F2 H2 u e2 l2 g2 r2 k2 => ?_⟩
  refine ho ρ2 F2 s2 H2 v u x y _ _ g2 (Den.mono l2 _ _ r1) r2 (Po.bind k2 fun z s3 ρ3 F3 H3 t e3 l3 g3 r3 k3 => ?_)
  cases z with
  | bl b =>
    simp only [Den] at r3
    refine ⟨b, r3, ?_⟩
    cases b with
    | true =>
      refine ⟨env, ρ3, F3, s3, g3, (l.mono l1).mono (l2.trans l3), Po.bind k3 fun w s4 ρ4 F4 H4 q e4 l4 g4 r4 k4 => ?_⟩
      exact ho' ρ4 F4 s4 H4 u q y w Q _ g4 (Den.mono (l3.trans l4) _ _ r2) r4 k4
    | false => exact k3 ρ3 F3 H3 _ LE.refl g3 (by simp only [Den])
  | _ => exact False.elim k3
theorem last_no {op op' : CmpOp} {b c : Expr} (h : op' ≠ .In) (h2 : op' ≠ .NotIn) : lastMarks [op, op'] [b, c] = false := nobehind c h h2
theorem es_leLt (ha : ES J X W a fa) (hb : ES J X W b fb) (hc : ES J X W c fc) : ES J X W (.Compare a [.LtE, .Lt] [b, c] pos) (eChain dLe dLt fa fb fc) := PE.imp (pe_chain op_le op_lt ha hb hc (last_no (by decide) (by decide))) fun _ _ _ h => tE_chain (iOp_all fun _ _ _ _ => by simp only [Den]) (iOp_all fun _ _ _ _ => by simp only [Den]) h
theorem es_leLe (ha : ES J X W a fa) (hb : ES J X W b fb) (hc : ES J X W c fc) : ES J X W (.Compare a [.LtE, .LtE] [b, c] pos) (eChain dLe dLe fa fb fc) := PE.imp (pe_chain op_le op_le ha hb hc (last_no (by decide) (by decide))) fun _ _ _ h => tE_chain (iOp_all fun _ _ _ _ => by simp only [Den]) (iOp_all fun _ _ _ _ => by simp only [Den]) h
theorem es_ltLt (ha : ES J X W a fa) (hb : ES J X W b fb) (hc : ES J X W c fc) : ES J X W (.Compare a [.Lt, .Lt] [b, c] pos) (eChain dLt dLt fa fb fc) := PE.imp (pe_chain op_lt op_lt ha hb hc (last_no (by decide) (by decide))) fun _ _ _ h => tE_chain (iOp_all fun _ _ _ _ => by simp only [Den]) (iOp_all fun _ _ _ _ => by simp only [Den]) h
theorem es_ltLe (ha : ES J X W a fa) (hb : ES J X W b fb) (hc : ES J X W c fc) : ES J X W (.Compare a [.Lt, .LtE] [b, c] pos) (eChain dLt dLe fa fb fc) := PE.imp (pe_chain op_lt op_le ha hb hc (last_no (by decide) (by decide))) fun _ _ _ h => tE_chain (iOp_all fun _ _ _ _ => by simp only [Den]) (iOp_all fun _ _ _ _ => by simp only [Den]) h
theorem ts_leLt (ha : ES J X W a fa) (hb : ES J X W b fb) (hc : ES J X W c fc) : TSo J X W (.Compare a [.LtE, .Lt] [b, c] pos) (tBl (eChain dLe dLt fa fb fc)) := PT.imp (pt_chain op_le op_lt ha hb hc (last_no (by decide) (by decide))) fun _ _ _ h => tE_chain (iOp_all fun _ _ _ _ => by simp only [Den]) (iOp_all fun _ _ _ _ => by simp only [Den]) (tT_bl h)
theorem ts_leLe (ha : ES J X W a fa) (hb : ES J X W b fb) (hc : ES J X W c fc) : TSo J X W (.Compare a [.LtE, .LtE] [b, c] pos) (tBl (eChain dLe dLe fa fb fc)) := PT.imp (pt_chain op_le op_le ha hb hc (last_no (by decide) (by decide))) fun _ _ _ h => tE_chain (iOp_all fun _ _ _ _ => by simp only [Den]) (iOp_all fun _ _ _ _ => by simp only [Den]) (tT_bl h)
theorem ts_ltLt (ha : ES J X W a fa) (hb : ES J X W b fb) (hc : ES J X W c fc) : TSo J X W (.Compare a [.Lt, .Lt] [b, c] pos) (tBl (eChain dLt dLt fa fb fc)) := PT.imp (pt_chain op_lt op_lt ha hb hc (last_no (by decide) (by decide))) fun _ _ _ h => tE_chain (iOp_all fun _ _ _ _ => by simp only [Den]) (iOp_all fun _ _ _ _ => by simp only [Den]) (tT_bl h)
theorem ts_ltLe (ha : ES J X W a fa) (hb : ES J X W b fb) (hc : ES J X W c fc) : TSo J X W (.Compare a [.Lt, .LtE] [b, c] pos) (tBl (eChain dLt dLe fa fb fc)) := PT.imp (pt_chain op_lt op_le ha hb hc (last_no (by decide) (by decide))) fun _ _ _ h => tE_chain (iOp_all fun _ _ _ _ => by simp only [Den]) (iOp_all fun _ _ _ _ => by simp only [Den]) (tT_bl h)
end
end Pd
namespace Pd
open PySem L2
/-! ### flat things -/
def flatD : Dt → Bool
  | .non => true
  | .bl _ => true
  | .int _ => true
  | .str _ => true
  | _ => false
def feq : Dt → Dt → Bool
  | .non, .non => true
  | .bl a, .bl b => a == b
  | .bl a, .int b => (if a then 1 else 0) == b
  | .int a, .bl b => a == (if b then 1 else 0)
  | .int a, .int b => a == b
  | .str a, .str b => a == b
  | _, _ => false
def toVd : Dt → V
  | .bl b => .bl b
  | .int i => .int i
  | .str x => .str x
  | _ => .non
theorem eqV_toVd {d e : Dt} (h : flatD d = true) (k : flatD e = true) : eqV (toVd d) (toVd e) = feq d e := by
  cases d <;> cases e <;> first | rfl | exact Bool.noConfusion h | exact Bool.noConfusion k
theorem flatV_toVd (d : Dt) : flatV (toVd d) = true := by cases d <;> rfl
section
variable {Γ : Wd} {ρ : List Addr} {F H : Hp} {s : Sto}
theorem Den.flat {d : Dt} {v : V} (h : Den Γ ρ F d v) (k : flatD d = true) : v = toVd d := by
  cases d with
  | non => simp only [Den] at h; exact h
  | bl b => simp only [Den] at h; exact h
  | int i => simp only [Den] at h; exact h
  | str x => simp only [Den] at h; exact h.1
  | _ => simp [flatD] at k
theorem Dens.flat : ∀ {ds : List Dt} {vs : List V}, Dens Γ ρ F ds vs → ds.all flatD = true → vs = ds.map toVd
  | [], vs, h, k => by simp only [Dens] at h; exact h
  | d :: ds, vs, h, k => by
    simp only [Dens] at h
    obtain ⟨v, r, e, q, t⟩ := h
    simp only [List.all_cons, Bool.and_eq_true] at k
    rw [e, List.map_cons, q.flat k.1, Dens.flat t k.2]
end
theorem any_toVd {x : Dt} (hx : flatD x = true) : ∀ {ds : List Dt}, ds.all flatD = true → inV (toVd x) (ds.map toVd) = ds.any fun e => feq e x
  | [], _ => rfl
  | d :: ds, k => by
    simp only [List.all_cons, Bool.and_eq_true] at k
    have ih := any_toVd hx k.2
    unfold inV at ih ⊢
    rw [List.map_cons, List.any_cons, List.any_cons, ih, eqV_toVd k.1 hx]
theorem all_flat_map : ∀ ds : List Dt, (ds.map toVd).all flatV = true
  | [] => rfl
  | d :: ds => by rw [List.map_cons, List.all_cons, flatV_toVd, all_flat_map ds]; rfl
/-- x in y -/
def inB (s : Sto) (x y : Dt) : Option Bool := match y with
  | .str z => match x with
    | .str w => match w.cps.toList with
      | [c] => some (decide (c ∈ z.cps.toList))
      | _ => none
    | _ => none
  | _ => match asQ s y with
    | some l => if flatD x && l.all flatD then some (l.any fun e => feq e x) else match toPyS s x, toPyS s y with
      | some d, some (.list ds) => if d.depth ≤ 64 ∧ (PyData.list ds).depth ≤ 64 then some (ds.any fun z => PyData.eqv z d) else none
      | some d, some (.tuple ds) => if d.depth ≤ 64 ∧ (PyData.tuple ds).depth ≤ 64 then some (ds.any fun z => PyData.eqv z d) else none
      | _, _ => none
    | none => none
theorem str_one {w : Str} {c : Nat} (h : w.cps.toList = [c]) : w = ⟨#[c]⟩ := by
  cases w with
  | mk a =>
    have e : a = #[c] := by apply Array.toList_inj.mp; simpa using h
    rw [e]
def rInAll (K : PySem.W.Frag) (f : Bool → Bool) : R2 := fun x y H Q =>
  (∃ (c : Nat) (z : Str), x = .str ⟨#[c]⟩ ∧ y = .str z ∧ Q (.bl (f (decide (c ∈ z.cps.toList)))) H) ∨
  ((∃ p xs, y = .ref p ∧ (SqL K H p xs ∨ SqT K H p xs) ∧ flatV x = true ∧ xs.all flatV = true ∧ Q (.bl (f (inV x xs))) H) ∨
  ((∃ d ds, Dp K H x d ∧ Dp K H y (.list ds) ∧ SeqAt.shaped d = true ∧ SeqAt.shaped (.list ds) = true ∧ Q (.bl (f (ds.any fun z => PyData.eqv z d))) H) ∨
  ∃ d ds, Dp K H x d ∧ Dp K H y (.tuple ds) ∧ SeqAt.shaped d = true ∧ SeqAt.shaped (.tuple ds) = true ∧ Q (.bl (f (ds.any fun z => PyData.eqv z d))) H))
def rInT (K : PySem.W.Frag) (f : Bool → Bool) : R2 := fun x y H Q => ∃ d ds, Dp K H x d ∧ Dp K H y (.tuple ds) ∧ SeqAt.shaped d = true ∧ SeqAt.shaped (.tuple ds) = true ∧ Q (.bl (f (ds.any fun z => PyData.eqv z d))) H
theorem op_inT {X : Cx} (hu : X.A.units + 65 < cLine) : OpR X (compareOp .In) (rInT X.K fun b => b) := by
  intro pins s σ H x y v u Q I rx ry h
  obtain ⟨d, ds, hd, he, sd, se, q⟩ := h
  obtain ⟨as, r1⟩ := Dp.reads I d x v hd rx
  obtain ⟨bs, r2⟩ := Dp.reads I (.tuple ds) y u he ry
  exact SeqAt.in_tuple_reads r2 r1 (SeqAt.canLay_of_shaped se) (SeqAt.canLay_of_shaped sd) (PyProof.Rows.room_in_shaped sd hu) ⟨.bl _, H, I, rfl, q⟩
theorem op_notInT {X : Cx} (hu : X.A.units + 65 < cLine) : OpR X (compareOp .NotIn) (rInT X.K fun b => !b) := by
  intro pins s σ H x y v u Q I rx ry h
  obtain ⟨d, ds, hd, he, sd, se, q⟩ := h
  obtain ⟨as, r1⟩ := Dp.reads I d x v hd rx
  obtain ⟨bs, r2⟩ := Dp.reads I (.tuple ds) y u he ry
  exact SeqAt.notIn_tuple_reads r2 r1 (SeqAt.canLay_of_shaped se) (SeqAt.canLay_of_shaped sd) (PyProof.Rows.room_in_shaped sd hu) ⟨.bl _, H, I, rfl, q⟩
theorem inB_of {Γ : Wd} {f : Bool → Bool} : OpS Γ (rInAll Γ.K f) (fun x y s => ofO s ((inB s x y).map fun b => .bl (f b))) := by
  intro ρ F s H x y dx dy Q E g rx ry k
  obtain ⟨d, e, k⟩ := Po.ofO k
  obtain ⟨b, e1, e2⟩ := Option.map_eq_some_iff.mp e
  subst e2
  have fin : Q (.bl (f b)) H := k ρ F H _ LE.refl g (by simp only [Den])
  clear k e
  unfold inB at e1
  split at e1
  · rename_i z
    split at e1
    · rename_i w
      split at e1
      · rename_i c hc
        cases e1
        simp only [Den] at rx ry
        exact .inl ⟨c, z, by rw [rx.1, str_one hc], ry.1, fin⟩
      · cases e1
    · cases e1
  · split at e1
    · rename_i l hl
      split at e1
      · rename_i hf
        cases e1
        simp only [Bool.and_eq_true] at hf
        obtain ⟨a, xs, e3, q, t, _⟩ := g.sqQ ry hl
        have e4 := t.flat hf.2
        subst e4
        rw [← any_toVd hf.1 hf.2, ← rx.flat hf.1] at fin
        exact .inr (.inl ⟨a, _, e3, q, by rw [rx.flat hf.1]; exact flatV_toVd _, all_flat_map _, fin⟩)
      · split at e1
        · rename_i d' ds hd hds
          split at e1
          · rename_i hz
            cases e1
            obtain ⟨r1, r2⟩ := g.dp rx hd
            obtain ⟨r3, r4⟩ := g.dp ry hds
            exact .inr (.inr (.inl ⟨d', ds, r1, r3, shaped_of r2 hz.1, shaped_of r4 hz.2, fin⟩))
          · cases e1
        · rename_i d' ds hd hds
          split at e1
          · rename_i hz
            cases e1
            obtain ⟨r1, r2⟩ := g.dp rx hd
            obtain ⟨r3, r4⟩ := g.dp ry hds
            exact .inr (.inr (.inr ⟨d', ds, r1, r3, shaped_of r2 hz.1, shaped_of r4 hz.2, fin⟩))
          · cases e1
        · cases e1
    · cases e1
def dIn (x y : Dt) (s : Sto) : Out Dt := ofO s ((inB s x y).map fun b => .bl b)
def dNotIn (x y : Dt) (s : Sto) : Out Dt := ofO s ((inB s x y).map fun b => .bl (!b))
section
variable {J : Cn} {X : Cx} {W : WX} {a b c e : Expr} {es : List Expr} {fa fb fc : Ex} {fs : List Ex} {ft fu : Tx} {pos : Pos}
theorem c_in (hu : X.A.units + 65 < cLine) : CmpOk J X .In dIn :=
  ⟨_, OpR.or op_in_sign (OpR.or op_in_seq (OpR.or (op_inD hu) (op_inT hu))), fun ρ F s H x y dx dy Q E g rx ry k => inB_of (f := fun b => b) ρ F s H x y dx dy Q E g rx ry k⟩
theorem c_notIn (hu : X.A.units + 65 < cLine) : CmpOk J X .NotIn dNotIn :=
  ⟨_, OpR.or op_notIn_sign (OpR.or op_notIn_seq (OpR.or (op_notInD hu) (op_notInT hu))), fun ρ F s H x y dx dy Q E g rx ry k => inB_of (f := fun b => !b) ρ F s H x y dx dy Q E g rx ry k⟩
/-! ### displays -/
theorem evs_len : ∀ {fs : List Ex} {env : En} {s s' : Sto} {ds : List Dt}, evs fs env s = .ok ds s' → ds.length = fs.length
  | [], env, s, s', ds, h => by simp only [evs, Out.ok.injEq] at h; rw [← h.1]; rfl
  | f :: fs, env, s, s', ds, h => by
    simp only [evs, bnd] at h
    cases e1 : f env s with
    | ok d s1 =>
      rw [e1] at h
      simp only [] at h
      cases e2 : evs fs env s1 with
      | ok ds' s2 =>
        rw [e2] at h
        simp only [Out.ok.injEq] at h
        rw [← h.1, List.length_cons, List.length_cons, evs_len e2]
      | exc c s2 => rw [e2] at h; cases h
      | bad => rw [e2] at h; cases h
    | exc c s1 => rw [e1] at h; cases h
    | bad => rw [e1] at h; cases h
theorem as_nil : ASo J X W [] [] := PA.imp pa_nil fun σ H Q ⟨env, ρ, F, s, g, l, k⟩ => k ρ F H [] LE.refl g (by simp only [Dens])
theorem as_cons (ha : ES J X W e fa) (hr : ASo J X W es fs) (hs : starEach (e :: es) X.env = (false, eval e X.env) :: starEach es X.env := by rfl) : ASo J X W (e :: es) (fa :: fs) :=
  PA.imp (pa_cons ha hr hs) fun σ H Q ⟨env, ρ, F, s, g, l, k⟩ => ⟨env, ρ, F, s, g, l, Po.bind k fun x s1 ρ1 F1 H1 v e1 l1 g1 r1 k1 =>
    ⟨env, ρ1, F1, s1, g1, l.mono l1, Po.bind k1 fun xs s2 ρ2 F2 H2 vs e2 l2 g2 r2 k2 => k2 ρ2 F2 H2 _ LE.refl g2 (by simp only [Dens]; exact ⟨v, vs, rfl, Den.mono l2 _ _ r1, r2⟩)⟩⟩
def eTup (fs : List Ex) : Ex := fun env => bnd (evs fs env) fun ds s => .ok (.tup ds) s
theorem new_tup {Γ : Wd} {ρ : List Addr} {F H : Hp} {s : Sto} {ds : List Dt} {xs : List V} {p : Addr} {Q : VK} {E : Value → Hp → Prop} (g : G Γ ρ F s H) (t : Dens Γ ρ F ds xs) (hz : ds.length ≤ sizeLine) (hp : H p = none) (k : EPo Γ ρ F H Q E (.ok (.tup ds) s)) : Q (.ref p) (upd H p (.tup xs)) := by
  refine k ρ _ _ _ (LE.frz g hp) (g.frz _ hp) ?_
  simp only [Den]
  exact ⟨hz, p, xs, rfl, upd_same, Dens.monoD (LD.upd (g.fnone hp)) _ _ t⟩
theorem es_tup {x1} (h : ASo J X W es fs) (hz : fs.length ≤ sizeLine := by decide) : ES J X W (.Tuple es x1 pos) (eTup fs) :=
  PE.imp (pe_tup h) fun σ H Q ⟨env, ρ, F, s, g, l, k⟩ => ⟨env, ρ, F, s, g, l, Po.bind k fun ds s1 ρ1 F1 H1 xs e1 l1 g1 r1 k1 => by
    have hl : ds.length ≤ sizeLine := by rw [evs_len e1]; exact hz
    exact ⟨by rw [← r1.length]; exact hl, fun p hp => new_tup g1 r1 hl hp k1⟩⟩
/-- a new list: one that never changes, or one of the store -/
def nwF (ds : List Dt) (s : Sto) : Out Dt := .ok (.lst ds) s
def nwM (ds : List Dt) (s : Sto) : Out Dt := .ok (.obj s.length) (s ++ [.lst ds])
def IsNw (nw : List Dt → Sto → Out Dt) : Prop := nw = nwF ∨ nw = nwM
theorem new_lst {nw : List Dt → Sto → Out Dt} (n : IsNw nw) {Γ : Wd} {ρ : List Addr} {F H : Hp} {s : Sto} {ds : List Dt} {xs : List V} {p : Addr} {Q : VK} {E : Value → Hp → Prop} (g : G Γ ρ F s H) (t : Dens Γ ρ F ds xs) (hz : ds.length ≤ sizeLine) (hp : H p = none) (k : EPo Γ ρ F H Q E (nw ds s)) : Q (.ref p) (upd H p (.lst xs)) := by
  rcases n with n | n
  · subst n
    refine k ρ _ _ _ (LE.frz g hp) (g.frz _ hp) ?_
    simp only [Den]
    exact ⟨hz, p, xs, rfl, upd_same, Dens.monoD (LD.upd (g.fnone hp)) _ _ t⟩
  · subst n
    refine k (ρ ++ [p]) F _ _ (LE.new hp) (g.new hp ⟨hz, xs, upd_same, Dens.monoD LD.push _ _ t⟩) ?_
    simp only [Den]
    exact ⟨p, rfl, by rw [← g.len, List.getElem?_append_right (Nat.le_refl _), Nat.sub_self]; rfl⟩
theorem isF : IsNw nwF := .inl rfl
theorem isM : IsNw nwM := .inr rfl
def eLst (nw : List Dt → Sto → Out Dt) (fs : List Ex) : Ex := fun env => bnd (evs fs env) nw
theorem es_lst {nw : List Dt → Sto → Out Dt} (n : IsNw nw) (h : ASo J X W es fs) (hz : fs.length ≤ sizeLine := by decide) : ES J X W (.List es pos) (eLst nw fs) :=
  PE.imp (pe_lst h) fun σ H Q ⟨env, ρ, F, s, g, l, k⟩ => ⟨env, ρ, F, s, g, l, Po.bind k fun ds s1 ρ1 F1 H1 xs e1 l1 g1 r1 k1 => by
    have hl : ds.length ≤ sizeLine := by rw [evs_len e1]; exact hz
    exact ⟨by rw [← r1.length]; exact hl, fun p hp => new_lst n g1 r1 hl hp k1⟩⟩
/-! ### a[b] -/
theorem strOk_mem {z : Str} {c : Nat} (h : PyData.strOk z = true) (hc : c ∈ z.cps.toList) : c < 0x110000 := by
  unfold PyData.strOk at h
  rw [Array.all_eq_true'] at h
  have := h c (Array.mem_toList_iff.mp hc)
  simpa using this
theorem strOk_of {z : Str} (h : ∀ c ∈ z.cps.toList, c < 0x110000) : PyData.strOk z = true := by
  unfold PyData.strOk
  rw [Array.all_eq_true']
  intro c hc
  simpa using h c (Array.mem_toList_iff.mpr hc)
theorem sok_of {z : Str} (h : ∀ c ∈ z.cps.toList, c < 0x110000) (k : z.length ≤ 1000000) : sok z = true := by
  unfold sok
  rw [strOk_of h, Bool.true_and]
  exact decide_eq_true k
theorem sok_mem {z : Str} {c : Nat} (h : sok z = true) (hc : c ∈ z.cps.toList) : c < 0x110000 := by
  unfold sok at h
  simp only [Bool.and_eq_true] at h
  exact strOk_mem h.1 hc
theorem sok_le {z : Str} (h : sok z = true) : z.length ≤ 1000000 := by
  unfold sok at h
  simp only [Bool.and_eq_true, decide_eq_true_eq] at h
  exact h.2
/-- a text made of signs of another one, not longer -/
theorem sok_sub {z y : Str} (h : sok z = true) (k : ∀ c ∈ y.cps.toList, c ∈ z.cps.toList) (l : y.length ≤ z.length) : sok y = true :=
  sok_of (fun c hc => sok_mem h (k c hc)) (Nat.le_trans l (sok_le h))
theorem sok_sign {z : Str} {c : Nat} (h : sok z = true) (hc : c ∈ z.cps.toList) : sok ⟨#[c]⟩ = true :=
  sok_of (fun d hd => by simp at hd; subst hd; exact sok_mem h hc) (by show 1 ≤ 1000000; decide)
def dIx (x y : Dt) (s : Sto) : Out Dt := match y with
  | .int i => match x with
    | .str z => ofO s ((atI z.cps.toList i).map fun c => .str ⟨#[c]⟩)
    | x => ofO s ((asQ s x).bind fun l => atI l i)
  | _ => .bad
theorem Dens.atI {Γ : Wd} {ρ : List Addr} {F : Hp} {ds : List Dt} {xs : List V} {i : Int} {d : Dt} (t : Dens Γ ρ F ds xs) (h : L2.atI ds i = some d) : ∃ v, L2.atI xs i = some v ∧ Den Γ ρ F d v := by
  unfold L2.atI at h ⊢
  rw [← t.length]
  obtain ⟨j, e1, e2⟩ := Option.bind_eq_some_iff.mp h
  obtain ⟨v, e3, r⟩ := t.get e2
  exact ⟨v, by rw [e1]; exact e3, r⟩
theorem atI_mem {α : Type} {l : List α} {i : Int} {d : α} (h : L2.atI l i = some d) : d ∈ l := by
  obtain ⟨j, _, e, _⟩ := atI_get h
  exact List.mem_of_getElem? e
theorem dIx_ok {Γ : Wd} : OpS Γ (rIx Γ.K) dIx := by
  intro ρ F s H x y dx dy Q E g rx ry k
  cases dy with
  | int i =>
    simp only [Den] at ry
    unfold dIx at k
    have gen : ∀ l, asQ s dx = some l → EPo Γ ρ F H Q E (ofO s (L2.atI l i)) → rIx Γ.K x y H Q := fun l hl k => by
      obtain ⟨d, e, k⟩ := Po.ofO k
      obtain ⟨a, xs, e1, q, t, _⟩ := g.sqQ rx hl
      obtain ⟨v, e2, r⟩ := t.atI e
      have fin := k ρ F H v LE.refl g r
      rcases q with q | q
      · exact .inl ⟨a, xs, i, v, e1, ry, q, e2, fin⟩
      · exact .inr (.inl ⟨a, xs, i, v, e1, ry, q, e2, fin⟩)
    cases dx with
    | str z =>
      obtain ⟨d, e, k⟩ := Po.ofO k
      obtain ⟨c, e1, e2⟩ := Option.map_eq_some_iff.mp e
      subst e2
      simp only [Den] at rx
      exact .inr (.inr ⟨z, i, c, rx.1, ry, sok_len rx.2, e1, k ρ F H _ LE.refl g (by simp only [Den]; exact ⟨trivial, sok_sign rx.2 (atI_mem e1)⟩)⟩)
    | tup l => exact gen l rfl k
    | lst l => exact gen l rfl k
    | lsk l => exact gen l rfl k
    | obj j =>
      simp only [] at k
      cases e : asQ s (.obj j) with
      | none => rw [e] at k; exact False.elim k
      | some l => rw [e] at k; exact gen l e k
    | _ => exact False.elim k
  | _ => exact False.elim k
theorem es_ix (ha : ES J X W a fa) (hb : ES J X W b fb) (hs : PlainIx b := by exact fun _ _ => rfl) : ES J X W (.Subscript a b pos) (eOp dIx fa fb) :=
  PE.imp (pe_ix ix_seq ha hb hs) fun _ _ _ h => tE_op dIx_ok h
/-! ### slices -/
def evp : Option Ex → En → Sto → Out (Option Int)
  | none, _, s => .ok none s
  | some f, env, s => bnd (f env) (fun d s => match d with | .int i => .ok (some i) s | _ => .bad) s
def tP (Γ : Wd) (W : WX) (f : Option Ex) : TO := fun σ H Q => ∃ env ρ F s, G Γ ρ F s H ∧ Sl Γ ρ F env σ ∧ Po Γ (fun _ _ (a b : Option Int) => a = b) ρ F H Q (fun c H' => W c none σ H') (evp f env s)
abbrev OS (J : Cn) (X : Cx) (W : WX) (e : Option Expr) (f : Option Ex) : Prop := PO X e (tP (wd J X) W f)
theorem PO.imp {X : Cx} {e : Option Expr} {t t' : TO} (h : PO X e t) (k : ∀ σ H Q, t' σ H Q → t σ H Q) : PO X e t' := ⟨fun pins s σ H Q I q => h.run pins s σ H Q I (k σ H Q q)⟩
theorem os_none : OS J X W none none := PO.imp po_none fun σ H Q ⟨env, ρ, F, s, g, l, k⟩ => k ρ F H none LE.refl g rfl
theorem os_some (h : ES J X W e fa) : OS J X W (some e) (some fa) := PO.imp (po_some h) fun σ H Q ⟨env, ρ, F, s, g, l, k⟩ => ⟨env, ρ, F, s, g, l, Po.bind k fun x s1 ρ1 F1 H1 v e1 l1 g1 r1 k1 => by
  cases x with
  | int i => simp only [Den] at r1; exact ⟨i, r1, k1 ρ1 F1 H1 _ LE.refl g1 rfl⟩
  | _ => exact False.elim k1⟩
def cutD {α : Type} (xs : List α) (lo hi : Option Int) : List α := (xs.drop (HT.sIx xs.length 0 lo)).take (HT.sIx xs.length xs.length hi - HT.sIx xs.length 0 lo)
theorem cutD_length {α : Type} (xs : List α) (lo hi : Option Int) : (cutD xs lo hi).length ≤ xs.length := by
  unfold cutD
  rw [List.length_take, List.length_drop]
  omega
theorem Dens.cut {Γ : Wd} {ρ : List Addr} {F : Hp} {ds : List Dt} {xs : List V} (t : Dens Γ ρ F ds xs) (lo hi : Option Int) : Dens Γ ρ F (cutD ds lo hi) (cutV xs lo hi) := by
  unfold cutD cutV
  rw [← t.length]
  exact Dens.take _ (Dens.drop _ t)
theorem sok_cut {z : Str} (h : sok z = true) (lo hi : Option Int) : sok (cutS z lo hi) = true :=
  sok_sub h (fun c hc => by
    unfold cutS at hc
    exact List.mem_of_mem_drop (List.mem_of_mem_take (by simpa using hc))) (cutS_length z lo hi)
def dSl (nw : List Dt → Sto → Out Dt) (x : Dt) (lo hi : Option Int) (s : Sto) : Out Dt := match x with
  | .str z => .ok (.str (cutS z lo hi)) s
  | .tup l => .ok (.tup (cutD l lo hi)) s
  | x => match asL s x with
    | some l => nw (cutD l lo hi) s
    | none => .bad
def eSl (nw : List Dt → Sto → Out Dt) (fa : Ex) (lo hi : Option Ex) : Ex := fun env => bnd (fa env) fun x => bnd (evp lo env) fun l => bnd (evp hi env) fun u => dSl nw x l u
theorem cut_whole {α : Type} {xs : List α} {lo hi : Option Int} (h : HT.sIx xs.length 0 lo = 0 ∧ HT.sIx xs.length xs.length hi = xs.length) : cutD xs lo hi = xs := by
  unfold cutD
  rw [h.1, h.2, List.drop_zero, Nat.sub_zero, List.take_length]
theorem dSl_ok {Γ : Wd} {nw : List Dt → Sto → Out Dt} (n : IsNw nw) {ρ : List Addr} {F H : Hp} {s : Sto} {x : V} {d : Dt} {lo hi : Option Int} {Q : VK} {E : Value → Hp → Prop} (g : G Γ ρ F s H) (r : Den Γ ρ F d x) (k : EPo Γ ρ F H Q E (dSl nw d lo hi s)) :
    rSlL Γ.K x lo hi H Q ∨ rSlA Γ.K x lo hi H Q ∨ rSlS x lo hi H Q := by
  have gen : ∀ l, asL s d = some l → EPo Γ ρ F H Q E (nw (cutD l lo hi) s) → rSlL Γ.K x lo hi H Q := fun l hl k => by
    obtain ⟨a, xs, e1, q, t, z⟩ := g.sqL r hl
    exact ⟨a, xs, e1, q, fun p hp => new_lst n g (t.cut lo hi) (Nat.le_trans (cutD_length _ _ _) z) hp k⟩
  cases d with
  | str z =>
    simp only [Den] at r
    exact .inr (.inr ⟨z, r.1, sok_len r.2, k ρ F H _ LE.refl g (by simp only [Den]; exact ⟨trivial, sok_cut r.2 lo hi⟩)⟩)
  | tup l =>
    obtain ⟨a, xs, e1, q, t, z⟩ := g.sqT r (l := l) rfl
    refine .inr (.inl ⟨a, xs, e1, q, fun hw => ?_, fun _ p hp => new_tup g (t.cut lo hi) (Nat.le_trans (cutD_length _ _ _) z) hp k⟩)
    rw [← t.length] at hw
    have e : dSl nw (.tup l) lo hi s = .ok (.tup l) s := by show Out.ok (Dt.tup (cutD l lo hi)) s = _; rw [cut_whole hw]
    rw [e] at k
    exact k ρ F H _ LE.refl g (by rw [← e1]; exact r)
  | lst l => exact .inl (gen l rfl k)
  | lsk l => exact .inl (gen l rfl k)
  | obj j =>
    cases e : asL s (.obj j) with
    | none => simp only [dSl, e] at k; exact False.elim k
    | some l => simp only [dSl, e] at k; exact .inl (gen l e k)
  | _ => exact False.elim k
theorem es_sl {nw : List Dt → Sto → Out Dt} (n : IsNw nw) {lo hi : Option Expr} {fl fh : Option Ex} {p2 : Pos} (ha : ES J X W a fa) (hl : OS J X W lo fl) (hh : OS J X W hi fh) : ES J X W (.Subscript a (.Slice lo hi none p2) pos) (eSl nw fa fl fh) :=
  PE.imp (pe_slice (SlR.or sl_list (SlR.or sl_tupA sl_str)) ha hl hh) fun σ H Q ⟨env, ρ, F, s, g, l, k⟩ => ⟨env, ρ, F, s, g, l, Po.bind k fun x s1 ρ1 F1 H1 v e1 l1 g1 r1 k1 =>
    ⟨env, ρ1, F1, s1, g1, l.mono l1, Po.bind k1 fun lo s2 ρ2 F2 H2 lo' e2 l2 g2 r2 k2 =>
      ⟨env, ρ2, F2, s2, g2, l.mono (l1.trans l2), Po.bind k2 fun hi s3 ρ3 F3 H3 hi' e3 l3 g3 r3 k3 => by
        subst r2; subst r3
        exact dSl_ok n g3 (Den.mono (l2.trans l3) _ _ r1) k3⟩⟩⟩
end
end Pd
namespace Pd
open PySem L2
section
variable {J : Cn} {X : Cx} {W : WX} {a b c e e2 : Expr} {es : List Expr} {fa fb fc fe : Ex} {fs : List Ex} {ft fu : Tx} {pos p : Pos}
/-! ### built-ins by their names -/
def C1S (Γ : Wd) (r : List V → Hp → VK → Prop) (op : Dt → Sto → Out Dt) : Prop := ∀ ρ F s H x dx Q E, G Γ ρ F s H → Den Γ ρ F dx x → EPo Γ ρ F H Q E (op dx s) → r [x] H Q
def C2S (Γ : Wd) (r : List V → Hp → VK → Prop) (op : Dt → Dt → Sto → Out Dt) : Prop := ∀ ρ F s H x y dx dy Q E, G Γ ρ F s H → Den Γ ρ F dx x → Den Γ ρ F dy y → EPo Γ ρ F H Q E (op dx dy s) → r [x, y] H Q
/-- a built-in of one argument that is known -/
def B1 (J : Cn) (X : Cx) (v : Value) (op : Dt → Sto → Out Dt) : Prop := ∃ r, CallR X v r ∧ C1S (wd J X) r op
def B2 (J : Cn) (X : Cx) (v : Value) (op : Dt → Dt → Sto → Out Dt) : Prop := ∃ r, CallR X v r ∧ C2S (wd J X) r op
theorem es_b1 {x : Str} {id : String} {op : Dt → Sto → Out Dt} (h : B1 J X (.builtin id) op) (hg : Gl X x) (hm : X.mg x = none) (hv : bootBuiltins x = some (.builtin id)) (ha : ES J X W e fe) (hn : x ≠ "__name__" := by decide) (hdb : (x == ("__debug__" : Str)) = false := by decide)
    (he : starEach (e :: []) X.env = (false, eval e X.env) :: starEach [] X.env := by rfl) : ES J X W (.Call (.Name x p) [e] [] pos) (eUn op fe) := by
  obtain ⟨r, hc, ho⟩ := h
  exact PE.imp (pe_callB hc hg hm hv (pa_cons ha pa_nil he) hn hdb he rfl) fun σ H Q ⟨env, ρ, F, s, g, l, k⟩ => ⟨env, ρ, F, s, g, l, Po.bind k fun x s1 ρ1 F1 H1 v e1 l1 g1 r1 k1 => ho ρ1 F1 s1 H1 v x Q _ g1 r1 k1⟩
theorem es_y1 {x : Str} {id : String} {op : Dt → Sto → Out Dt} (h : B1 J X (.type id) op) (hg : Gl X x) (hm : X.mg x = none) (hv : bootBuiltins x = some (.type id)) (ha : ES J X W e fe) (hn : x ≠ "__name__" := by decide) (hdb : (x == ("__debug__" : Str)) = false := by decide)
    (he : starEach (e :: []) X.env = (false, eval e X.env) :: starEach [] X.env := by rfl) : ES J X W (.Call (.Name x p) [e] [] pos) (eUn op fe) := by
  obtain ⟨r, hc, ho⟩ := h
  exact PE.imp (pe_callTy hc hg hm hv (pa_cons ha pa_nil he) hn hdb he rfl) fun σ H Q ⟨env, ρ, F, s, g, l, k⟩ => ⟨env, ρ, F, s, g, l, Po.bind k fun x s1 ρ1 F1 H1 v e1 l1 g1 r1 k1 => ho ρ1 F1 s1 H1 v x Q _ g1 r1 k1⟩
theorem es_b2 {x : Str} {id : String} {op : Dt → Dt → Sto → Out Dt} (h : B2 J X (.builtin id) op) (hg : Gl X x) (hm : X.mg x = none) (hv : bootBuiltins x = some (.builtin id)) (ha : ES J X W a fa) (hb : ES J X W b fb) (hn : x ≠ "__name__" := by decide) (hdb : (x == ("__debug__" : Str)) = false := by decide)
    (he : starEach [a, b] X.env = [(false, eval a X.env), (false, eval b X.env)] := by rfl) (he2 : starEach [b] X.env = [(false, eval b X.env)] := by rfl) : ES J X W (.Call (.Name x p) [a, b] [] pos) (eOp op fa fb) := by
  obtain ⟨r, hc, ho⟩ := h
  have h1 : starEach (a :: [b]) X.env = (false, eval a X.env) :: starEach [b] X.env := by rw [he2]; exact he
  have h2 : starEach (b :: []) X.env = (false, eval b X.env) :: starEach [] X.env := he2
  have h3 : (backTo pos (starEach [b] X.env)).any (·.1) = false := by rw [he2]; rfl
  exact PE.imp (pe_callB hc hg hm hv (pa_cons ha (pa_cons hb pa_nil h2) h1) hn hdb h1 h3) fun σ H Q ⟨env, ρ, F, s, g, l, k⟩ => ⟨env, ρ, F, s, g, l, Po.bind k fun x s1 ρ1 F1 H1 v e1 l1 g1 r1 k1 =>
    ⟨env, ρ1, F1, s1, g1, l.mono l1, Po.bind k1 fun y s2 ρ2 F2 H2 u e2 l2 g2 r2 k2 => ho ρ2 F2 s2 H2 v u x y Q _ g2 (Den.mono l2 _ _ r1) r2 k2⟩⟩
/-- len -/
def lenD (s : Sto) (d : Dt) : Option Nat := match d with
  | .str x => some x.length
  | .obj i => match s[i]? with
    | some (.lst l) => some l.length
    | some (.dic kvs) => some kvs.length
    | some (.dit kvs) => some kvs.length
    | _ => none
  | d => (asQ s d).map (·.length)
def dLen (d : Dt) (s : Sto) : Out Dt := ofO s ((lenD s d).map fun (n : Nat) => .int n)
theorem len_dict {X : Cx} : CallR X (.builtin "len") (fun xs H Q => ∃ a kvs, xs = [.ref a] ∧ Rd H a (.dK kvs) ∧ Q (.int kvs.length) H) := by
  intro pins s σ H xs us Q I r h
  obtain ⟨a, kvs, e, hd, q⟩ := h
  subst e
  obtain ⟨u, e, ru⟩ := vals1 r
  subst e
  obtain rfl : u = Value.ref a := ru
  exact d_len I hd fun t s' I' => ⟨.int kvs.length, H, I', ⟨t, rfl⟩, q⟩
theorem b_len : B1 J X (.builtin "len") dLen := ⟨_, CallR.or call_len (CallR.or len_dict call_len_dT), fun ρ F s H x dx Q E g rx k => by
  obtain ⟨d, e, k⟩ := Po.ofO k
  obtain ⟨n, e1, e2⟩ := Option.map_eq_some_iff.mp e
  subst e2
  have fin : Q (.int n) H := k ρ F H _ LE.refl g (by simp only [Den])
  have gen : ∀ l, asQ s dx = some l → n = l.length → (∃ x' n', [x] = [x'] ∧ LenV X.K x' H n' ∧ Q (.int n') H) := fun l hl hn => by
    obtain ⟨a, xs, e1, q, t, _⟩ := g.sqQ rx hl
    subst e1
    refine ⟨_, n, rfl, ?_, fin⟩
    rw [hn, t.length]
    rcases q with q | q
    · exact .inl ⟨xs, q, rfl⟩
    · exact .inr ⟨xs, q, rfl⟩
  cases dx with
  | str z =>
    simp only [Den] at rx
    simp only [lenD, Option.some.injEq] at e1
    obtain ⟨rx, hk⟩ := rx
    subst rx; subst e1
    exact .inl ⟨_, _, rfl, ⟨sok_len hk, rfl⟩, fin⟩
  | tup l => simp [lenD, asQ] at e1; exact .inl (gen l rfl e1.symm)
  | lst l => simp [lenD, asQ, asL] at e1; exact .inl (gen l rfl e1.symm)
  | lsk l => simp [lenD, asQ, asL] at e1; exact .inl (gen l rfl e1.symm)
  | obj i =>
    simp only [lenD] at e1
    split at e1
    · rename_i l hs
      cases e1
      exact .inl (gen l (by simp only [asQ, asL, hs]) rfl)
    · rename_i l hs
      cases e1
      simp only [Den] at rx
      obtain ⟨a, e2, q⟩ := rx
      subst e2
      obtain ⟨z, vs, hx, t⟩ := g.at_ i a _ q hs
      exact .inr (.inl ⟨a, vs, rfl, .inl hx, by rw [← t.length]; exact fin⟩)
    · rename_i l hs
      cases e1
      simp only [Den] at rx
      obtain ⟨a, e2, q⟩ := rx
      subst e2
      obtain ⟨z, vs, hx, t⟩ := g.at_ i a _ q hs
      exact .inr (.inr ⟨a, vs, rfl, hx, by rw [← t.length]; exact fin⟩)
    · cases e1
  | _ => simp [lenD, asQ, asL] at e1⟩
/-- ord -/
def dOrd (d : Dt) (s : Sto) : Out Dt := match d with
  | .str x => match x.cps.toList with
    | [c] => .ok (.int c) s
    | _ => .bad
  | _ => .bad
theorem b_ord : B1 J X (.builtin "ord") dOrd := ⟨_, call_ord, fun ρ F s H x dx Q E g rx k => by
  cases dx with
  | str z =>
    simp only [Den] at rx
    simp only [dOrd] at k
    split at k
    · rename_i c hc
      obtain ⟨rx, hk⟩ := rx
      have e := str_one hc
      subst e
      exact ⟨_, by rw [rx], rfl, k ρ F H _ LE.refl g (by simp only [Den]; rfl)⟩
    · exact False.elim k
  | _ => exact False.elim k⟩
/-- all, any of a list of truths -/
def asB : List Dt → Option (List Bool)
  | [] => some []
  | .bl b :: r => (asB r).map (b :: ·)
  | _ => none
theorem Dens.bools {Γ : Wd} {ρ : List Addr} {F : Hp} : ∀ {l : List Dt} {xs : List V} {bs : List Bool}, Dens Γ ρ F l xs → asB l = some bs → xs = bs.map V.bl
  | [], xs, bs, h, e => by simp only [Dens] at h; simp only [asB, Option.some.injEq] at e; subst e; exact h
  | d :: l, xs, bs, h, e => by
    simp only [Dens] at h
    obtain ⟨v, r, e1, q, t⟩ := h
    cases d with
    | bl b =>
      simp only [asB, Option.map_eq_some_iff] at e
      obtain ⟨bs', e2, e3⟩ := e
      simp only [Den] at q
      subst e3; subst e1; subst q
      rw [Dens.bools t e2]; rfl
    | _ => simp [asB] at e
def dAll (d : Dt) (s : Sto) : Out Dt := ofO s (((asL s d).bind asB).map fun bs => .bl (bs.all id))
def dAny (d : Dt) (s : Sto) : Out Dt := ofO s (((asL s d).bind asB).map fun bs => .bl (bs.any id))
theorem b_all (hc : X.calm = true) : B1 J X (.builtin "all") dAll := ⟨_, cr_all hc, fun ρ F s H x dx Q E g rx k => by
  obtain ⟨d, e, k⟩ := Po.ofO k
  obtain ⟨bs, e1, e2⟩ := Option.map_eq_some_iff.mp e
  obtain ⟨l, e3, e4⟩ := Option.bind_eq_some_iff.mp e1
  subst e2
  obtain ⟨a, xs, e5, q, t, _⟩ := g.sqL rx e3
  subst e5
  have e6 := t.bools e4
  subst e6
  exact ⟨a, bs, rfl, q, k ρ F H _ LE.refl g (by simp only [Den])⟩⟩
theorem b_any (hc : X.calm = true) : B1 J X (.builtin "any") dAny := ⟨_, cr_any hc, fun ρ F s H x dx Q E g rx k => by
  obtain ⟨d, e, k⟩ := Po.ofO k
  obtain ⟨bs, e1, e2⟩ := Option.map_eq_some_iff.mp e
  obtain ⟨l, e3, e4⟩ := Option.bind_eq_some_iff.mp e1
  subst e2
  obtain ⟨a, xs, e5, q, t, _⟩ := g.sqL rx e3
  subst e5
  have e6 := t.bools e4
  subst e6
  exact ⟨a, bs, rfl, q, k ρ F H _ LE.refl g (by simp only [Den])⟩⟩
def dMax := iOp (fun i j => .int (if j > i then j else i)) fun _ _ => true
def dMin := iOp (fun i j => .int (if j < i then j else i)) fun _ _ => true
theorem b_max (hc : X.calm = true) : B2 J X (.builtin "max") dMax := ⟨_, call_max2 hc, fun ρ F s H x y dx dy Q E g rx ry k => by
  obtain ⟨i, j, e1, e2, q⟩ := iOp_all (Γ := wd J X) (gv := fun i j => .int (if j > i then j else i)) (fun _ _ _ _ => by simp only [Den]) ρ F s H x y dx dy Q E g rx ry k
  subst e1; subst e2
  exact ⟨i, j, rfl, q⟩⟩
theorem b_min (hc : X.calm = true) : B2 J X (.builtin "min") dMin := ⟨_, call_min2 hc, fun ρ F s H x y dx dy Q E g rx ry k => by
  obtain ⟨i, j, e1, e2, q⟩ := iOp_all (Γ := wd J X) (gv := fun i j => .int (if j < i then j else i)) (fun _ _ _ _ => by simp only [Den]) ρ F s H x y dx dy Q E g rx ry k
  subst e1; subst e2
  exact ⟨i, j, rfl, q⟩⟩
def dInt (d : Dt) (s : Sto) : Out Dt := match d with
  | .int i => .ok (.int i) s
  | .bl b => .ok (.int (if b then 1 else 0)) s
  | _ => .bad
theorem b_int : B1 J X (.type "int") dInt := ⟨_, call_int1, fun ρ F s H x dx Q E g rx k => by
  cases dx with
  | int i => simp only [Den] at rx; subst rx; exact .inl ⟨i, rfl, k ρ F H _ LE.refl g (by simp only [Den])⟩
  | bl i => simp only [Den] at rx; subst rx; exact .inr ⟨i, rfl, k ρ F H _ LE.refl g (by simp only [Den])⟩
  | _ => exact False.elim k⟩
/-- list(x), tuple(x) of a list or a tuple -/
def dList (nw : List Dt → Sto → Out Dt) (d : Dt) (s : Sto) : Out Dt := match asQ s d with
  | some l => nw l s
  | none => .bad
theorem b_list {nw : List Dt → Sto → Out Dt} (n : IsNw nw) : B1 J X (.type "list") (dList nw) := ⟨_, call_list_of, fun ρ F s H x dx Q E g rx k => by
  unfold dList at k
  split at k
  · rename_i l hl
    obtain ⟨a, xs, e5, q, t, z⟩ := g.sqQ rx hl
    subst e5
    exact ⟨a, xs, rfl, q, fun p hp => new_lst n g t z hp k⟩
  · exact False.elim k⟩
def dTuple (d : Dt) (s : Sto) : Out Dt := ofO s ((asQ s d).map .tup)
theorem b_tuple : B1 J X (.type "tuple") dTuple := ⟨_, call_tuple_of, fun ρ F s H x dx Q E g rx k => by
  obtain ⟨d, e, k⟩ := Po.ofO k
  obtain ⟨l, e1, e2⟩ := Option.map_eq_some_iff.mp e
  subst e2
  have gen : asL s dx = some l → ∃ p ys, [x] = [V.ref p] ∧ ((SqL X.K H p ys ∧ ∀ l, H l = none → Q (.ref l) (upd H l (.tup ys))) ∨ (SqT X.K H p ys ∧ Q (.ref p) H)) := fun hl => by
    obtain ⟨a, xs, e5, q, t, z⟩ := g.sqL rx hl
    subst e5
    exact ⟨a, xs, rfl, .inl ⟨q, fun p hp => new_tup g t z hp k⟩⟩
  cases dx with
  | tup l' =>
    simp only [asQ, Option.some.injEq] at e1
    subst e1
    obtain ⟨a, xs, e6, q, t, z⟩ := g.sqT rx (l := l') rfl
    have fin := k ρ F H x LE.refl g rx
    subst e6
    exact ⟨a, xs, rfl, .inr ⟨q, fin⟩⟩
  | _ => exact gen e1⟩
end
end Pd
namespace Pd
open PySem L2
/-! ### statements -/
def sBnd {α : Type} (m : Sto → Out α) (env : En) (k : α → Sto → Res) (s : Sto) : Res := match m s with
  | .ok a s' => k a s'
  | .exc c s' => .exc c env s'
  | .bad => .bad
theorem FPo.bind {α β : Type} {Γ : Wd} {W : WX} {R1 : List Addr → Hp → α → β → Prop} {ρ : List Addr} {F H : Hp} {D : Ends} {Q1 : β → Hp → Prop} {m : Sto → Out α} {k : α → Sto → Res} {env : En} {σ : St} {s : Sto}
    (h : FPo Γ W ρ F H D (sBnd m env k s)) (sl : Sl Γ ρ F env σ) (hk : ∀ a s' ρ' F' H' v, m s = .ok a s' → LE ρ F H ρ' F' H' → G Γ ρ' F' s' H' → R1 ρ' F' a v → FPo Γ W ρ' F' H' D (k a s') → Q1 v H') : Po Γ R1 ρ F H Q1 (fun c H' => W c none σ H') (m s) := by
  unfold sBnd at h
  cases e : m s with
  | ok a s' =>
    rw [e] at h
    exact fun ρ' F' H' v l g r => hk a s' ρ' F' H' v e l g r (h.le l)
  | exc c s' =>
    rw [e] at h
    exact fun ρ' F' H' C l g r => h ρ' F' H' σ C l g (sl.mono l) r
  | bad => rw [e] at h; exact h
section
variable {J : Cn} {X : Cx} {W : WX} {a b c e e2 o : Expr} {es : List Expr} {fa fb fc fe fo : Ex} {fs : List Ex} {ft fu : Tx} {pos p : Pos} {st : Stmt} {rest : List Stmt} {f1 f2 : Sx}
def sNext : Sx := fun env s => .fl (.nx env) s
def sSeq (f g : Sx) : Sx := fun env s => match f env s with
  | .fl (.nx e) s' => g e s'
  | r => r
theorem ss_nil : SSs J X W [] sNext := PSs.imp pss_nil fun D σ H ⟨env, ρ, F, s, g, l, k⟩ => k ρ F H σ LE.refl g l
theorem ss_pass : SS J X W (.Pass pos) sNext := PS.imp ps_pass fun D σ H ⟨env, ρ, F, s, g, l, k⟩ => k ρ F H σ LE.refl g l
theorem ss_one (h : SS J X W st f1) : SSs J X W [st] f1 := pss_one h
theorem ss_cons (h1 : SS J X W st f1) (h2 : SSs J X W rest f2) : SSs J X W (st :: rest) (sSeq f1 f2) :=
  PSs.imp (pss_cons h1 h2) fun D σ H ⟨env, ρ, F, s, g, l, k⟩ => by
    refine ⟨env, ρ, F, s, g, l, ?_⟩
    unfold sSeq at k
    cases e : f1 env s with
    | fl f s1 =>
      rw [e] at k
      cases f with
      | nx e1 => exact fun ρ' F' H' σ' l' g' sl' => ⟨e1, ρ', F', s1, g', sl', k.le l'⟩
      | rt d => exact k
      | bk d => exact k
      | ct d => exact k
    | exc c e1 s1 => rw [e] at k; exact k
    | bad => rw [e] at k; exact k
def sBreak : Sx := fun env s => .fl (.bk env) s
theorem ss_break : SS J X W (.Break pos) sBreak := PS.imp ps_break fun D σ H ⟨env, ρ, F, s, g, l, k⟩ => k ρ F H σ LE.refl g l
def sCont : Sx := fun env s => .fl (.ct env) s
theorem ss_cont : SS J X W (.Continue pos) sCont := PS.imp ps_continue fun D σ H ⟨env, ρ, F, s, g, l, k⟩ => k ρ F H σ LE.refl g l
def sExpr (f : Ex) : Sx := fun env => sBnd (f env) env fun _ s => .fl (.nx env) s
theorem ss_expr (h : ES J X W e fe) (hs : swapsWith e none pos.line X.env = pure false := by rfl) : SS J X W (.Expr e pos) (sExpr fe) :=
  PS.imp (ps_expr h hs) fun D σ H ⟨env, ρ, F, s, g, l, k⟩ => ⟨env, ρ, F, s, g, l, FPo.bind k l fun d s1 ρ1 F1 H1 v e1 l1 g1 r1 k1 => k1 ρ1 F1 H1 σ LE.refl g1 (l.mono l1)⟩
def sRet (f : Ex) : Sx := fun env => sBnd (f env) env fun d s => .fl (.rt d) s
theorem ss_ret (h : ES J X W e fe) : SS J X W (.Return (some e) pos) (sRet fe) :=
  PS.imp (ps_ret h) fun D σ H ⟨env, ρ, F, s, g, l, k⟩ => ⟨env, ρ, F, s, g, l, FPo.bind k l fun d s1 ρ1 F1 H1 v e1 l1 g1 r1 k1 => k1 ρ1 F1 H1 v LE.refl g1 r1⟩
def sIf (t : Tx) (f g : Sx) : Sx := fun env => sBnd (t env) env fun c s => if c = true then f env s else g env s
theorem ss_if {x y : List Stmt} (hc : TSo J X W c ft) (ha : SSs J X W x f1) (hb : SSs J X W y f2) : SS J X W (.If c x y pos) (sIf ft f1 f2) :=
  PS.imp (ps_if hc ha hb) fun D σ H ⟨env, ρ, F, s, g, l, k⟩ => ⟨env, ρ, F, s, g, l, FPo.bind k l fun d s1 ρ1 F1 H1 v e1 l1 g1 r1 k1 => by
    subst r1
    cases d with
    | true => exact ⟨env, ρ1, F1, s1, g1, l.mono l1, k1⟩
    | false => exact ⟨env, ρ1, F1, s1, g1, l.mono l1, k1⟩⟩
/-! targets -/
abbrev Tg := Dt → En → Sto → Option En
def tG (Γ : Wd) (is : List Nat) (tg : Tg) : TG := fun v σ H Q => ∃ env ρ F s d env', G Γ ρ F s H ∧ Sl Γ ρ F env σ ∧ Den Γ ρ F d v ∧ tg d env s = some env' ∧
  ∀ σ', Sl Γ ρ F env' σ' → σ'.length = σ.length → (∀ j, j ∉ is → σ'[j]? = σ[j]?) → Q σ' H
abbrev GS (J : Cn) (X : Cx) (tgt : Expr) (is : List Nat) (tg : Tg) : Prop := PG X tgt (tG (wd J X) is tg)
theorem PG.imp {X : Cx} {e : Expr} {t t' : TG} (h : PG X e t) (k : ∀ v σ H Q, t' v σ H Q → t v σ H Q) : PG X e t' := ⟨fun pins s σ H v u Q I r q => h.run pins s σ H v u Q I r (k v σ H Q q)⟩
def gN (i : Nat) : Tg := fun d env _ => some (env.set i (some d))
theorem gs_name {i : Nat} (h : PG X e (gName i)) : GS J X e [i] (gN i) := PG.imp h fun v σ H Q ⟨env, ρ, F, s, d, env', g, l, r, e, k⟩ => by
  unfold gN at e
  cases e
  exact k _ (l.set r i) (by rw [List.length_set]) fun j hj => by rw [List.getElem?_set_ne (fun z => hj (by rw [z]; exact List.mem_singleton_self _))]
def setAll : List Nat → List Dt → En → Option En
  | [], [], env => some env
  | i :: is, d :: ds, env => setAll is ds (env.set i (some d))
  | _, _, _ => none
def tGs (Γ : Wd) (is : List Nat) : TGs := fun vs σ H Q => ∃ env ρ F s ds env', G Γ ρ F s H ∧ Sl Γ ρ F env σ ∧ Dens Γ ρ F ds vs ∧ setAll is ds env = some env' ∧
  ∀ σ', Sl Γ ρ F env' σ' → σ'.length = σ.length → (∀ j, j ∉ is → σ'[j]? = σ[j]?) → Q σ' H
abbrev GSs (J : Cn) (X : Cx) (tgs : List Expr) (is : List Nat) : Prop := PGs X tgs (tGs (wd J X) is)
theorem PGs.imp {X : Cx} {e : List Expr} {t t' : TGs} (h : PGs X e t) (k : ∀ v σ H Q, t' v σ H Q → t v σ H Q) : PGs X e t' := ⟨fun pins s σ H v u Q I r q => h.run pins s σ H v u Q I r (k v σ H Q q)⟩
theorem gss_nil : GSs J X [] [] := PGs.imp pgs_nil fun v σ H Q ⟨env, ρ, F, s, ds, env', g, l, r, e, k⟩ => by
  cases ds with
  | nil =>
    simp only [Dens] at r
    simp only [setAll, Option.some.injEq] at e
    subst e
    exact ⟨r, k σ l rfl fun _ _ => rfl⟩
  | cons d ds => simp [setAll] at e
theorem gss_cons {i : Nat} {is : List Nat} (h : PG X e (gName i)) (hr : GSs J X es is) (hs : (assignEach (e :: es) X.env).map (·.2) = assign e X.env :: (assignEach es X.env).map (·.2) := by rfl) : GSs J X (e :: es) (i :: is) :=
  PGs.imp (pgs_cons h hr hs) fun v σ H Q ⟨env, ρ, F, s, ds, env', g, l, r, e, k⟩ => by
    cases ds with
    | nil => simp [setAll] at e
    | cons d ds =>
      simp only [Dens] at r
      obtain ⟨v', vr, e1, q, t⟩ := r
      simp only [setAll] at e
      refine ⟨v', vr, e1, ?_⟩
      refine ⟨_, ρ, F, s, ds, env', g, l.set q i, t, e, fun σ' l' z1 z2 => k σ' l' (by rw [z1, List.length_set]) fun j hj => ?_⟩
      rw [z2 j (fun z => hj (List.mem_cons_of_mem _ z)), List.getElem?_set_ne (fun z => hj (by rw [z]; exact List.mem_cons_self))]
def gT (is : List Nat) : Tg := fun d env _ => match d with
  | .tup l => setAll is l env
  | _ => none
theorem setAll_len : ∀ {is : List Nat} {ds : List Dt} {env env' : En}, setAll is ds env = some env' → ds.length = is.length
  | [], [], env, env', h => rfl
  | i :: is, d :: ds, env, env', h => by simp only [setAll] at h; rw [List.length_cons, List.length_cons, setAll_len h]
  | [], d :: ds, env, env', h => by simp [setAll] at h
  | i :: is, [], env, env', h => by simp [setAll] at h
theorem gs_tup {is : List Nat} {k : Nat} (hc : X.calm = true) (h : GSs J X es is) (hn : (assignEach es X.env).length = is.length := by rfl) (hst : (assignEach es X.env).findIdx? (·.1) = none := by rfl) : GS J X (.Tuple es k pos) is (gT is) :=
  PG.imp (pg_tup hc h hn hst) fun v σ H Q ⟨env, ρ, F, s, d, env', g, l, r, e, q⟩ => by
    cases d with
    | tup ds =>
      simp only [gT] at e
      obtain ⟨x, xs, e1, q1, t, _⟩ := g.sqT r (l := ds) rfl
      exact ⟨x, xs, e1, q1, by rw [← t.length, setAll_len e], env, ρ, F, s, ds, env', g, l, t, e, q⟩
    | _ => simp [gT] at e
/-- target = e -/
def sAsg (f : Ex) (tg : Tg) : Sx := fun env => sBnd (f env) env fun d s => match tg d env s with
  | some e => .fl (.nx e) s
  | none => .bad
theorem asg_of {Γ : Wd} {is : List Nat} {tg : Tg} {D : Ends} {σ : St} {H : Hp} (h : tS Γ W (sAsg fe tg) D σ H) : tAsg (tE Γ W fe) (tG Γ is tg) D σ H := by
  obtain ⟨env, ρ, F, s, g, l, k⟩ := h
  refine ⟨env, ρ, F, s, g, l, FPo.bind k l fun d s1 ρ1 F1 H1 v e1 l1 g1 r1 k1 => ?_⟩
  cases e : tg d env s1 with
  | none => rw [e] at k1; exact False.elim k1
  | some env' =>
    rw [e] at k1
    exact ⟨env, ρ1, F1, s1, d, env', g1, l.mono l1, r1, e, fun σ' sl _ _ => k1 ρ1 F1 H1 σ' LE.refl g1 sl⟩
theorem ss_asg {tgt : Expr} {is : List Nat} {tg : Tg} (he : ES J X W e fe) (hg : GS J X tgt is tg) (hs : swapsWithSole [tgt] e pos.line X.env = pure false := by rfl) (hw : swappedStores [tgt] e X.env = pure none := by rfl)
    (h1 : (assignEach [tgt] X.env).map (·.2) = [assign tgt X.env] := by rfl) : SS J X W (.Assign [tgt] e pos) (sAsg fe tg) := PS.imp (ps_asg he hg hs hw h1) fun D σ H h => asg_of h
/-! attributes -/
theorem zip_lookup : ∀ {names : List Str} {vs : List V} {i : Nat} {f : Str} {v : V}, names.Nodup → names[i]? = some f → vs[i]? = some v → (names.zip vs).lookup f = some v
  | [], vs, i, f, v, nd, h1, h2 => by simp at h1
  | n :: ns, [], i, f, v, nd, h1, h2 => by simp at h2
  | n :: ns, x :: xs, 0, f, v, nd, h1, h2 => by
    simp at h1 h2
    subst h1; subst h2
    simp [List.lookup]
  | n :: ns, x :: xs, i + 1, f, v, nd, h1, h2 => by
    have nd' := List.nodup_cons.mp nd
    have hne : (f == n) = false := by
      rw [beq_eq_false_iff_ne]
      intro z
      subst z
      exact nd'.1 (List.mem_of_getElem? (by simpa using h1))
    show (List.lookup f ((n, x) :: ns.zip xs)) = some v
    rw [List.lookup_cons, hne]
    exact zip_lookup nd'.2 (by simpa using h1) (by simpa using h2)
theorem zip_miss : ∀ {names : List Str} {vs : List V} {f : Str}, f ∉ names → (names.zip vs).lookup f = none
  | [], vs, f, h => by simp
  | n :: ns, [], f, h => by simp
  | n :: ns, x :: xs, f, h => by
    have hne : (f == n) = false := by
      rw [beq_eq_false_iff_ne]
      intro z
      subst z
      exact h List.mem_cons_self
    show (List.lookup f ((n, x) :: ns.zip xs)) = none
    rw [List.lookup_cons, hne]
    exact zip_miss fun z => h (List.mem_cons_of_mem _ z)
/-- a store at place i: in its place, or behind the last one -/
def putI {α : Type} (i : Nat) (d : α) (l : List α) : List α := if i < l.length then l.set i d else l ++ [d]
theorem zip_put : ∀ {names : List Str} {vs : List V} {i : Nat} {f : Str} {v : V}, names.Nodup → names[i]? = some f → i ≤ vs.length → putF f v (names.zip vs) = names.zip (putI i v vs)
  | [], vs, i, f, v, nd, h1, h2 => by simp at h1
  | n :: ns, [], i, f, v, nd, h1, h2 => by
    simp at h2
    subst h2
    simp at h1
    subst h1
    simp [putI, putF]
  | n :: ns, x :: xs, 0, f, v, nd, h1, h2 => by
    simp at h1
    subst h1
    show (if n = n then _ else _) = _
    rw [if_pos rfl]
    rfl
  | n :: ns, x :: xs, i + 1, f, v, nd, h1, h2 => by
    have nd' := List.nodup_cons.mp nd
    have hne : ¬ n = f := by
      intro z
      subst z
      exact nd'.1 (List.mem_of_getElem? (by simpa using h1))
    show (if n = f then _ else (n, x) :: putF f v (ns.zip xs)) = _
    rw [if_neg hne, zip_put nd'.2 (by simpa using h1) (by simpa using h2)]
    unfold putI
    by_cases hi : i < xs.length
    · rw [if_pos hi, if_pos (by simpa using hi)]; rfl
    · rw [if_neg hi, if_neg (by simpa using hi)]; rfl
def insD (s : Sto) (c : Nat) (d : Dt) : Option (Nat × List Dt) := match d with
  | .obj j => match s[j]? with
    | some (.ins c' ds) => if c' = c then some (j, ds) else none
    | _ => none
  | _ => none
theorem G.ins {Γ : Wd} {ρ : List Addr} {F H : Hp} {s : Sto} (g : G Γ ρ F s H) {d : Dt} {v : V} {c j : Nat} {ds : List Dt} (r : Den Γ ρ F d v) (h : insD s c d = some (j, ds)) :
    ∃ a C dx vs, v = .ref a ∧ ρ[j]? = some a ∧ s[j]? = some (.ins c ds) ∧ Γ.cl c C ∧ H a = some (.ins C dx ((Γ.J c).2.zip vs)) ∧ Dens Γ ρ F ds vs ∧ ds.length ≤ (Γ.J c).2.length ∧ (Γ.J c).2.length < 1000 := by
  unfold insD at h
  split at h
  · rename_i j'
    split at h
    · rename_i c' ds' hs
      split at h
      · rename_i hc
        cases h
        subst hc
        simp only [Den] at r
        obtain ⟨a, e, q⟩ := r
        obtain ⟨C, dx, vs, h1, h2, h3, h4⟩ := g.at_ _ a _ q hs
        exact ⟨a, C, dx, vs, e, q, hs, h1, h2, h3, h4⟩
      · cases h
    · cases h
  · cases h
/-- what of the text an attribute asks -/
structure AtF (J : Cn) (K : PySem.W.Frag) (mg : Str → Option Value) (c i : Nat) (f : Str) : Prop where
  nm : (J c).2[i]? = some f
  nd : (J c).2.Nodup
  cl : ∀ C, mg (J c).1 = some (.ref C) → Cls K C ∧ NoAttr K C f
def eFld (c i : Nat) (fo : Ex) : Ex := fun env => bnd (fo env) fun d s => ofO s ((insD s c d).bind fun p => p.2[i]?)
theorem es_fld {c i : Nat} {f : Str} (A : AtF J X.K X.mg c i f) (ho : ES J X W o fo) (hb : attributeBase o f X.env (eval o X.env) = eval o X.env := by rfl) : ES J X W (.Attribute o f pos) (eFld c i fo) :=
  PE.imp (pe_fld ho hb) fun σ H Q ⟨env, ρ, F, s, g, l, k⟩ => ⟨env, ρ, F, s, g, l, Po.bind k fun d s1 ρ1 F1 H1 v e1 l1 g1 r1 k1 => by
    obtain ⟨d', e, k1⟩ := Po.ofO k1
    obtain ⟨⟨j, ds⟩, e2, e3⟩ := Option.bind_eq_some_iff.mp e
    obtain ⟨a, C, dx, vs, h1, h2, h3, h4, h5, h6, h7⟩ := g1.ins r1 e2
    obtain ⟨u, hu, ru⟩ := h6.get e3
    obtain ⟨hc, hn⟩ := A.cl C h4
    exact ⟨a, C, dx, _, u, h1, h5, hc, hn, zip_lookup A.nd A.nm hu, k1 ρ1 F1 H1 u LE.refl g1 ru⟩⟩
theorem Dens.putI {Γ : Wd} {ρ : List Addr} {F : Hp} {ds : List Dt} {vs : List V} {d : Dt} {v : V} (t : Dens Γ ρ F ds vs) (r : Den Γ ρ F d v) (i : Nat) : Dens Γ ρ F (Pd.putI i d ds) (Pd.putI i v vs) := by
  unfold Pd.putI
  rw [← t.length]
  split
  · exact Dens.set r i t
  · exact Dens.append t (Dens.one r)
def setFD (s : Sto) (c i : Nat) (d y : Dt) : Option Sto := (insD s c d).bind fun p => if i ≤ p.2.length then some (s.set p.1 (.ins c (putI i y p.2))) else none
def sSetF (c i : Nat) (fo fv : Ex) : Sx := fun env => sBnd (fv env) env fun y => sBnd (fo env) env fun d s => match setFD s c i d y with
  | some s' => .fl (.nx env) s'
  | none => .bad
theorem putI_len {α : Type} {i n : Nat} {d : α} {l : List α} (h : i < n) (k : l.length ≤ n) (hi : i ≤ l.length) : (putI i d l).length ≤ n := by
  unfold putI
  split
  · rw [List.length_set]; exact k
  · rw [List.length_append]; simp; omega
theorem ss_setF {c i : Nat} {f : Str} {value : Expr} {fv : Ex} {pos' : Pos} (A : AtF J X.K X.mg c i f) (ho : ES J X W o fo) (hv : ES J X W value fv) (hs : swapsWith value (some (.Attribute o f pos')) pos.line X.env = pure false := by rfl) : SS J X W (.Assign [.Attribute o f pos'] value pos) (sSetF c i fo fv) :=
  PS.imp (ps_fld ho hv hs) fun D σ H ⟨env, ρ, F, s, g, l, k⟩ => ⟨env, ρ, F, s, g, l, FPo.bind k l fun y s1 ρ1 F1 H1 v e1 l1 g1 r1 k1 =>
    ⟨env, ρ1, F1, s1, g1, l.mono l1, FPo.bind k1 (l.mono l1) fun d s2 ρ2 F2 H2 u e2 l2 g2 r2 k2 => by
      cases e : setFD s2 c i d y with
      | none => rw [e] at k2; exact False.elim k2
      | some s3 =>
        rw [e] at k2
        obtain ⟨⟨j, ds⟩, e3, e4⟩ := Option.bind_eq_some_iff.mp e
        simp only [] at e4
        split at e4
        · rename_i hi
          cases e4
          obtain ⟨a, C, dx, vs, h1, h2, h3, h4, h5, h6, h7, h8⟩ := g2.ins r2 e3
          obtain ⟨hc, hn⟩ := A.cl C h4
          have hin : i < (J c).2.length := (List.getElem?_eq_some_iff.mp A.nm).1
          have hvl : vs.length = ds.length := h6.length.symm
          refine ⟨a, C, dx, _, h1, h5, hc, hn, by rw [List.length_zip]; exact Nat.lt_of_le_of_lt (Nat.min_le_left _ _) h8, ?_⟩
          rw [zip_put A.nd A.nm (by rw [hvl]; exact hi)]
          refine k2 ρ2 F2 _ σ (LE.put (List.mem_of_getElem? h2)) (g2.put h2 (fun od u e => by rw [h5] at e; cases e) ⟨C, dx, _, h4, upd_same, Dens.putI h6 (Den.mono l2 _ _ r1) i, putI_len hin h7 hi, h8⟩) ((l.mono l1).mono l2)
        · cases e4⟩⟩
end
end Pd
namespace Pd
open PySem L2
/-! ### promises -/
/-- a def's meaning -/
abbrev Fn := List Dt → Sto → Out Dt
/-- a def keeps its meaning -/
def spD (Γ : Wd) (n : Nat) (m : Fn) : Sp := fun vs H Q E => ∃ ρ F s ds, G Γ ρ F s H ∧ Dens Γ ρ F ds vs ∧ ds.length = n ∧ EPo Γ ρ F H Q (fun c H' => E c none H') (m ds s)
/-- how errors leave a def: true, raised where nothing is handled; false, any -/
def cxt (z : Bool) (P : Program) (w : World) : CXT := match z with
  | true => L2N.CX P w
  | false => L2.CX P w
def Tks (z : Bool) (X : Cx) (W : WX) : Prop := match z with
  | true => L2N.Takes X W
  | false => L2.Takes X W
theorem xeN {X : Cx} {W : WX} {u : Value} {s : Shared} (x : L2N.XE X W u s) : L2.XE X W u s := by
  obtain ⟨a, B, sI, pins, σ, H, cls, d, e1, I, nb, up, sky, r⟩ := x
  refine ⟨a, B, sI, pins, σ, H, cls, d, e1, I, nb, up, ?_, r⟩
  rcases sky with ⟨h1, h2, h3, oe, vs, h4, h5, h6⟩ | ⟨h1, h2, h3, oe, vs, T, oT, ts, h4, h5, h6⟩ | ⟨h1, h2, h3, oe, vs, T, oT, ts, h4, h5, h6⟩
  · exact .inl ⟨h1, h2, h3, oe, vs, h4, h5.zc, h6⟩
  · exact .inr (.inl ⟨h1, h2, h3, oe, vs, T, oT, ts, h4, h5.zc, h6⟩)
  · exact .inr (.inr ⟨h1, h2, h3, oe, vs, T, oT, ts, h4, h5.zc, h6⟩)
theorem Tks.up {z : Bool} {X : Cx} {W : WX} (t : Tks false X W) : Tks z X W := match z with
  | true => fun u s x => t u s (xeN x)
  | false => t
theorem Tks.pass {z : Bool} {X : Cx} {W : WX} (t : Tks z X W) (σ : St) : PassesAt (cxt z X.prog X.w) X σ (WE W σ) := match z, t with
  | true, t => L2N.passAt t σ
  | false, t => L2.passAt t σ
theorem tks_of {z : Bool} {X : Cx} {E : XK} (hs : X.stack = X.env :: X.outer) (hf : X.env.frame = some X.env.locals) (hex : X.ex = []) {E1 : Value → Shared → Prop}
    (hx : X.xe = fun e s' => wpAny (model X.prog X.w) X.A (leaving X.env e) (fun _ s'' => cxt z X.prog X.w X.outer X.H_0 X.s_0 E e s'') E1 s') : Tks z X (fun cls d _ H => E cls d H) := match z, hx with
  | true, hx => L2N.takes_of hs hf hex hx
  | false, hx => L2.takes_of hs hf hex hx
theorem tks0 {z : Bool} {X : Cx} : Tks z X (fun _ _ _ _ => False) := Tks.up (z := z) takes0
/-- a def of the program by its meaning -/
structure Df (z : Bool) (P : Program) (w : World) (K : PySem.W.Frag) (mg : Str → Option Value) (base : Heap) (J : Cn) (k n : Nat) (f : Addr) (m : Fn) : Prop where
  ok : ∃ fd ps, FnOk P w K mg base (cxt z P w) k f fd ps (spD ⟨K, mg, J⟩ n m) ∧ Binds K fd ps []
abbrev DfX (z : Bool) (J : Cn) (X : Cx) (k n : Nat) (f : Addr) (m : Fn) : Prop := Df z X.prog X.w X.K X.mg X.base J k n f m
section
variable {J : Cn} {X : Cx} {W : WX} {a b c e e2 o : Expr} {es : List Expr} {fa fb fc fe fo : Ex} {fs : List Ex} {ft fu : Tx} {pos p apos : Pos} {st : Stmt} {rest : List Stmt} {f1 f2 : Sx}
def eCall (m : Fn) (fs : List Ex) : Ex := fun env => bnd (evs fs env) m
theorem es_call {k f : Nat} {x : Str} {m : Fn} {z : Bool} (tk : Tks z X W) (D : DfX z J X k (fs.length + 1) f m) (hr : Room k X.A) (hg : Gl X x) (hm : X.mg x = some (.ref f)) (hk : PySem.W.keepIn X.K (.ref f) = true) (ha : ASo J X W (e :: es) (fa :: fs))
    (hdb : (x == ("__debug__" : Str)) = false := by decide) (he : starEach (e :: es) X.env = (false, eval e X.env) :: starEach es X.env := by rfl) (hpl : (backTo pos (starEach es X.env)).any (·.1) = false := by rfl) :
    ES J X W (.Call (.Name x p) (e :: es) [] pos) (eCall m (fa :: fs)) := by
  obtain ⟨fd, ps, F, hb⟩ := D.ok
  exact PE.imp (pe_callS F hr hg hm hk hb (fun σ => tk.pass σ) ha hdb he hpl) fun σ H Q ⟨env, ρ, F, s, g, l, k⟩ => ⟨env, ρ, F, s, g, l, Po.bind k fun ds s1 ρ1 F1 H1 vs e1 l1 g1 r1 k1 => ⟨ρ1, F1, s1, ds, g1, r1, evs_len e1, k1⟩⟩
/-- a def without arguments -/
theorem es_call0 {k f : Nat} {x : Str} {m : Fn} {z : Bool} (tk : Tks z X W) (D : DfX z J X k 0 f m) (hr : Room k X.A) (hg : Gl X x) (hm : X.mg x = some (.ref f)) (hk : PySem.W.keepIn X.K (.ref f) = true) (hdb : (x == ("__debug__" : Str)) = false := by decide) :
    ES J X W (.Call (.Name x p) [] [] pos) (eCall m []) := by
  obtain ⟨fd, ps, F, hb⟩ := D.ok
  refine ⟨fun pins s σ H Q I h => ?_⟩
  obtain ⟨env, ρ, Fz, st, g, l, k⟩ := h
  refine wpAny_Call_Name_kw (ld_glob I hg hm ?_ hdb)
  exact PySem.W.callWith_K0 I.kIn hk (run_fnS (E := WE W) (us := []) (vs := []) F hr hb (tk.pass σ) I .nil ⟨ρ, Fz, st, [], g, by simp only [Dens], rfl, k⟩)
/-- what of the text a method asks -/
structure MeF (J : Cn) (K : PySem.W.Frag) (mg : Str → Option Value) (c : Nat) (m : Str) (C f : Addr) : Prop where
  mg : mg (J c).1 = some (.ref C)
  no : m ∉ (J c).2
  cl : Cls K C
  me : Meth K C m f
def eMeth (c : Nat) (m : Fn) (fo : Ex) (fs : List Ex) : Ex := fun env => bnd (fo env) fun x s => match insD s c x with
  | some _ => bnd (evs fs env) (fun ds => m (x :: ds)) s
  | none => .bad
theorem meth_of {c : Nat} {mn : Str} {C f : Addr} {m : Fn} {k : Nat} {pl : Sem Bool} {z : Bool} (tk : Tks z X W) (M : MeF J X.K X.mg c mn C f) (D : DfX z J X k (fs.length + 1) f m) (hr : Room k X.A) (ho : ES J X W o fo) (ha : ASo J X W es fs)
    (hcw : ∀ (pins : List (Addr × Obj)) (σ : St) (x : Addr) (s1 : Shared) (H1 : Hp) (Q : Value → Shared → Prop), Inv X pins σ H1 s1 → tA (wd J X) W fs σ H1 (fun vs H2 => ∀ us s2, Inv X pins σ H2 s2 → Vals vs us → wpAny (model X.prog X.w) X.A (call (.ref f) (.ref x :: us)) Q X.xe s2) →
      wpAny (model X.prog X.w) X.A (callWith pos (.ref f) [.ref x] (backTo pos (starEach es X.env)) (backToKw pos (keywordEach [] X.env))) Q X.xe s1)
    (ht : eval (.Call (.Attribute o mn apos) es [] pos) X.env = (do
      let ov ← eval o X.env
      standAt apos.atName
      let (f, first) ← holding [ov] (getMethod ov mn pl)
      callWith pos f first (backTo pos (starEach es X.env)) (backToKw pos (keywordEach [] X.env)))) :
    ES J X W (.Call (.Attribute o mn apos) es [] pos) (eMeth c m fo fs) := by
  obtain ⟨fd, ps, Fk, hb⟩ := D.ok
  refine ⟨fun pins s σ H Q I h => ?_⟩
  obtain ⟨env, ρ, F, st, g, l, k⟩ := h
  refine methcall_of ho I ⟨env, ρ, F, st, g, l, Po.bind k fun d s1 ρ1 F1 H1 v e1 l1 g1 r1 k1 => ?_⟩ ht
  cases e : insD s1 c d with
  | none => rw [e] at k1; exact False.elim k1
  | some q =>
    obtain ⟨j, ds⟩ := q
    rw [e] at k1
    obtain ⟨x, C', dx, vs, h1, h2, h3, h4, h5, h6, h7⟩ := g1.ins r1 e
    have eC : C' = C := by
      have z := h4.symm.trans M.mg
      cases z
      rfl
    subst eC
    refine ⟨x, C', dx, _, f, h1, h5, M.cl, M.me, zip_miss M.no, fun s2 I2 => hcw pins σ x s2 H1 _ I2 ?_⟩
    refine ⟨env, ρ1, F1, s1, g1, l.mono l1, Po.bind k1 fun as s3 ρ3 F3 H3 ws e3 l3 g3 r3 k3 us s4 I4 rv => ?_⟩
    refine run_fnS (E := WE W) (us := .ref x :: us) (vs := .ref x :: ws) Fk hr hb (tk.pass σ) I4 (.cons rfl rv) ⟨ρ3, F3, s3, d :: as, g3, ?_, by rw [List.length_cons, evs_len e3], k3⟩
    simp only [Dens]
    exact ⟨v, ws, by rw [h1], Den.mono l3 _ _ r1, r3⟩
theorem es_meth {c : Nat} {mn : Str} {C f : Addr} {m : Fn} {k : Nat} {pl : Sem Bool} {z : Bool} (tk : Tks z X W) (M : MeF J X.K X.mg c mn C f) (D : DfX z J X k (fs.length + 2) f m) (hr : Room k X.A) (ho : ES J X W o fo) (ha : ASo J X W (e :: es) (fa :: fs))
    (hst : starEach (e :: es) X.env = (false, eval e X.env) :: starEach es X.env := by rfl) (hpl : (backTo pos (starEach es X.env)).any (·.1) = false := by rfl)
    (ht : eval (.Call (.Attribute o mn apos) (e :: es) [] pos) X.env = (do
      let ov ← eval o X.env
      standAt apos.atName
      let (f, first) ← holding [ov] (getMethod ov mn pl)
      callWith pos f first (backTo pos (starEach (e :: es) X.env)) (backToKw pos (keywordEach [] X.env))) := by rfl) :
    ES J X W (.Call (.Attribute o mn apos) (e :: es) [] pos) (eMeth c m fo (fa :: fs)) :=
  meth_of (pl := pl) tk M D hr ho ha (fun pins σ x s1 H1 Q I1 h => PySem.W.callWith_K (first := [.ref x]) (h₀ := X.base) I1.ok.mod.kin M.me.kp (thn (ha.run pos pins s1 σ H1 _ I1 h) fun us s2 ⟨vs, H2, I2, r, q⟩ => ⟨I2.kIn, q us s2 I2 r⟩) hst hpl) ht
theorem es_meth0 {c : Nat} {mn : Str} {C f : Addr} {m : Fn} {k : Nat} {pl : Sem Bool} {z : Bool} (tk : Tks z X W) (M : MeF J X.K X.mg c mn C f) (D : DfX z J X k 1 f m) (hr : Room k X.A) (ho : ES J X W o fo)
    (ht : eval (.Call (.Attribute o mn apos) [] [] pos) X.env = (do
      let ov ← eval o X.env
      standAt apos.atName
      let (f, first) ← holding [ov] (getMethod ov mn pl)
      callWith pos f first (backTo pos (starEach [] X.env)) (backToKw pos (keywordEach [] X.env))) := by rfl) :
    ES J X W (.Call (.Attribute o mn apos) [] [] pos) (eMeth c m fo []) :=
  meth_of (pl := pl) (fs := []) tk M D hr ho as_nil (fun pins σ x s1 H1 Q I1 ⟨env, ρ, F, s, g, l, k⟩ => PySem.W.callWith_K0 (first := [.ref x]) I1.kIn M.me.kp (k ρ F H1 [] LE.refl g (by simp only [Dens]) [] s1 I1 .nil)) ht
/-- what of the text the making of an object asks -/
structure MkF (J : Cn) (K : PySem.W.Frag) (mg : Str → Option Value) (c : Nat) (C f : Addr) : Prop where
  mg : mg (J c).1 = some (.ref C)
  mak : Mk K C f
  few : (J c).2.length < 1000
def eMake (c : Nat) (m : Fn) (fs : List Ex) : Ex := fun env => bnd (evs fs env) fun ds s => bnd (m (.obj s.length :: ds)) (fun _ s' => .ok (.obj s.length) s') (s ++ [.ins c []])
theorem make_of {c : Nat} {C f : Addr} {m : Fn} {k n : Nat} {z : Bool} (tk : Tks z X W) (M : MkF J X.K X.mg c C f) (D : DfX z J X k (n + 1) f m) (hr : Room (k + 1) X.A)
    (hnon : ∀ ds s d s', m ds s = .ok d s' → d = .non) {pins : List (Addr × Obj)} {σ : St} {H : Hp} {s : Shared} {ρ : List Addr} {F : Hp} {st : Sto} {ds : List Dt} {us : List Value} {vs : List V} {Q : VK} (I : Inv X pins σ H s) (r : Vals vs us) (g : G (wd J X) ρ F st H) (t : Dens (wd J X) ρ F ds vs) (hn : ds.length = n)
    (q : EPo (wd J X) ρ F H Q (fun c H' => W c none σ H') (bnd (m (.obj st.length :: ds)) (fun _ s' => .ok (.obj st.length) s') (st ++ [.ins c []]))) : wpAny (model X.prog X.w) X.A (call (.ref C) us) (EP X pins σ Q) X.xe s := by
  obtain ⟨fd, ps, Fk, hb⟩ := D.ok
  have I2 := Inv.made (C := C) I
  have n1 : H (s.heap.objs.size + 1) = none := I.hok.fresh (Nat.le_succ _)
  have n0 : H s.heap.objs.size = none := I.hok.fresh (Nat.le_refl _)
  have ne : s.heap.objs.size + 1 ≠ s.heap.objs.size := Nat.succ_ne_self _
  have g1 : G (wd J X) ρ F st (upd H s.heap.objs.size (.own (s.heap.objs.size + 1))) := g.skip _ n0
  have n1' : upd H s.heap.objs.size (.own (s.heap.objs.size + 1)) (s.heap.objs.size + 1) = none := by rw [upd_ne ne]; exact n1
  have g2 : G (wd J X) (ρ ++ [s.heap.objs.size + 1]) F (st ++ [.ins c []]) (upd (upd H s.heap.objs.size (.own (s.heap.objs.size + 1))) (s.heap.objs.size + 1) (.ins C s.heap.objs.size [])) :=
    g1.new n1' ⟨C, s.heap.objs.size, [], M.mg, by rw [upd_same]; simp, by simp only [Dens], Nat.zero_le _, M.few⟩
  have l2 : LE ρ F H (ρ ++ [s.heap.objs.size + 1]) F (upd (upd H s.heap.objs.size (.own (s.heap.objs.size + 1))) (s.heap.objs.size + 1) (.ins C s.heap.objs.size [])) := (LE.skip n0).trans (LE.new n1')
  have hob : Den (wd J X) (ρ ++ [s.heap.objs.size + 1]) F (.obj st.length) (.ref (s.heap.objs.size + 1)) := by
    simp only [Den]
    exact ⟨_, rfl, by rw [← g.len, List.getElem?_append_right (Nat.le_refl _), Nat.sub_self]; rfl⟩
  have hsp : spD (wd J X) (n + 1) m (.ref (s.heap.objs.size + 1) :: vs) (upd (upd H s.heap.objs.size (.own (s.heap.objs.size + 1))) (s.heap.objs.size + 1) (.ins C s.heap.objs.size [])) (fun v H2 => v = .non ∧ Q (.ref (s.heap.objs.size + 1)) H2) (WE W σ) := by
    refine ⟨_, F, _, .obj st.length :: ds, g2, ?_, by rw [List.length_cons, hn], ?_⟩
    · simp only [Dens]
      exact ⟨_, vs, rfl, hob, Dens.mono l2 _ _ t⟩
    · have q2 := q.mono l2 (fun _ _ z => z) fun _ _ z => z
      refine Po.bind q2 fun d s3 ρ3 F3 H3 v e3 l3 g3 r3 k3 => ?_
      have ed := hnon _ _ _ _ e3
      subst ed
      simp only [Den] at r3
      exact ⟨r3, k3 ρ3 F3 H3 _ LE.refl g3 (Den.mono l3 _ _ hob)⟩
  have r2 : Vals (V.ref (s.heap.objs.size + 1) :: vs) (Value.ref (s.heap.objs.size + 1) :: us) := .cons rfl r
  have hl : (Value.ref (s.heap.objs.size + 1) :: us).length = ps.length := by rw [← r2.length]; exact Fk.len _ _ _ _ hsp
  have b2 := hb { s with heap := (s.heap.push PySem.W.emptyDict).push (PySem.W.instObj C s.heap.objs.size) } (Value.ref (s.heap.objs.size + 1) :: us) I2.kIn (by rw [List.append_nil]; exact hl)
  rw [List.append_nil] at b2
  refine wpAny_call (make_map (f := f) I.kIn M.mak.makes M.mak.init (beq_iff_eq.mp M.mak.fn) (codeAny_mono (Fk.run _ X.stack _ _ ⟨Value.ref (s.heap.objs.size + 1) :: us, []⟩ _ _ _ (WE W σ) (hr.make C us []) (I2.env0.make C us []) b2 r2 hsp) fun rs s' hq => ?_))
  cases rs with
  | error e => exact tk.pass σ pins _ _ e s' I2 hq
  | ok fl =>
    cases fl with
    | ret u =>
      obtain ⟨v, H', I3, rv, ev, q3⟩ := I2.after hq
      subst ev
      exact ⟨rv, ⟨V.ref (s.heap.objs.size + 1), H', I3, rfl, q3⟩⟩
    | _ => exact False.elim hq
theorem es_make {c : Nat} {x : Str} {C f : Addr} {m : Fn} {k : Nat} {z : Bool} (tk : Tks z X W) (M : MkF J X.K X.mg c C f) (D : DfX z J X k (fs.length + 2) f m) (hr : Room (k + 1) X.A) (hnon : ∀ ds s d s', m ds s = .ok d s' → d = .non) (hx : (J c).1 = x) (hg : Gl X x) (ha : ASo J X W (e :: es) (fa :: fs))
    (hdb : (x == ("__debug__" : Str)) = false := by decide) (he : starEach (e :: es) X.env = (false, eval e X.env) :: starEach es X.env := by rfl) (hpl : (backTo pos (starEach es X.env)).any (·.1) = false := by rfl) :
    ES J X W (.Call (.Name x p) (e :: es) [] pos) (eMake c m (fa :: fs)) := by
  refine ⟨fun pins s σ H Q I h => ?_⟩
  obtain ⟨env, ρ, F, st, g, l, k⟩ := h
  refine wpAny_Call_Name_kw (ld_glob I hg (by rw [← hx]; exact M.mg) ?_ hdb)
  refine PySem.W.callWith_K (h₀ := X.base) I.ok.mod.kin M.mak.kp (thn (ha.run pos pins s σ H (fun vs H1 => ∀ us s1, Inv X pins σ H1 s1 → Vals vs us → wpAny (model X.prog X.w) X.A (call (.ref C) us) (EP X pins σ Q) X.xe s1) I ⟨env, ρ, F, st, g, l, Po.bind k fun ds s1 ρ1 F1 H1 vs e1 l1 g1 r1 k1 us s2 I2 rv => make_of tk M D hr hnon I2 rv g1 r1 (evs_len e1) k1⟩) fun us s1 ⟨vs, H1, I1, r, q⟩ => ⟨I1.kIn, q us s1 I1 r⟩) he hpl
theorem es_make0 {c : Nat} {x : Str} {C f : Addr} {m : Fn} {k : Nat} {z : Bool} (tk : Tks z X W) (M : MkF J X.K X.mg c C f) (D : DfX z J X k 1 f m) (hr : Room (k + 1) X.A) (hnon : ∀ ds s d s', m ds s = .ok d s' → d = .non) (hx : (J c).1 = x) (hg : Gl X x)
    (hdb : (x == ("__debug__" : Str)) = false := by decide) :
    ES J X W (.Call (.Name x p) [] [] pos) (eMake c m []) := by
  refine ⟨fun pins s σ H Q I h => ?_⟩
  obtain ⟨env, ρ, F, st, g, l, k⟩ := h
  refine wpAny_Call_Name_kw (ld_glob I hg (by rw [← hx]; exact M.mg) ?_ hdb)
  exact PySem.W.callWith_K0 I.kIn M.mak.kp (make_of (us := []) (vs := []) (ds := []) tk M D hr hnon I .nil g (by simp only [Dens]) rfl k)
/-! ### a def by its body -/
def fnOf (n : Nat) (f : Sx) : Fn := fun ds s => match f (ds.map some ++ List.replicate (n - ds.length) none) s with
  | .fl (.rt d) s' => .ok d s'
  | .fl (.nx _) s' => .ok .non s'
  | .exc c _ s' => .exc c s'
  | _ => .bad
end
theorem Dens.slots {Γ : Wd} {ρ : List Addr} {F : Hp} {ds : List Dt} {vs : List V} (t : Dens Γ ρ F ds vs) (N : List Str) : Sl Γ ρ F (ds.map some ++ List.replicate (N.length - ds.length) none) (L2.start N vs) := by
  unfold L2.start
  refine ⟨by simp [t.length], fun i d h => ?_⟩
  by_cases hi : i < ds.length
  · rw [List.getElem?_append_left (by simpa using hi), List.getElem?_map] at h
    obtain ⟨d', e1, e2⟩ := Option.map_eq_some_iff.mp h
    cases e2
    obtain ⟨v, e3, r⟩ := t.get e1
    exact ⟨v, by rw [List.getElem?_append_left (by rw [List.length_map, ← t.length]; exact hi), List.getElem?_map, e3]; rfl, r⟩
  · rw [List.getElem?_append_right (by simpa using hi), List.getElem?_replicate] at h
    split at h
    · simp at h
    · cases h
/-- the same def by a meaning that ends alike wherever the first one ends well -/
theorem Df.imp {z : Bool} {P : Program} {w : World} {K : PySem.W.Frag} {mg : Str → Option Value} {base : Heap} {J : Cn} {k n : Nat} {f : Addr} {m m' : Fn} (D : Df z P w K mg base J k n f m)
    (h : ∀ ds s, ds.length = n → m' ds s ≠ .bad → m ds s = m' ds s) : Df z P w K mg base J k n f m' := by
  obtain ⟨fd, ps, F, hb⟩ := D.ok
  refine ⟨fd, ps, F.imp fun vs H Q E ⟨ρ, Fz, s, ds, g, t, z, q⟩ => ⟨ρ, Fz, s, ds, g, t, z, ?_⟩, hb⟩
  rw [h ds s z (fun e => by rw [e] at q; exact q)]
  exact q
theorem Df.mono {z : Bool} {P : Program} {w : World} {K : PySem.W.Frag} {mg : Str → Option Value} {base : Heap} {J : Cn} {k k' n : Nat} {f : Addr} {m : Fn} (D : Df z P w K mg base J k n f m) (h : k ≤ k') : Df z P w K mg base J k' n f m := by
  obtain ⟨fd, ps, F, hb⟩ := D.ok
  exact ⟨fd, ps, F.mono h, hb⟩
theorem okC {P : Program} {w : World} {K : PySem.W.Frag} {mg : Str → Option Value} {base : Heap} {CX : CXT} {x qual : Str} {st : Stmt} {f : Addr} {fd : FuncData} {N ps : List Str} {k : Nat} {sp : Sp} (F : Fun K x qual st f fd) (S : FnScope N ps (defScope st)) (len : ∀ vs H Q E, sp vs H Q E → vs.length = ps.length)
    (hbody : ∀ (cdv : Value) (A : Around) (outer : List Env) (s : Shared) (H : Hp) (vs : List V) (Q : VK) (E : XK), Room k (A.deeper (PyProof.Rows.envOfC qual (defScope st) s.heap.objs.size f cdv)) → sp vs H Q E →
      ∃ t, PSs (cxOf CX P w K mg base N qual (defScope st) f cdv A outer s H E) (defBody st) t ∧ t { nx := fun _ H' => Q .non H', rt := Q } (L2.start N vs) H) : FnOk P w K mg base CX (k + 1) f fd ps sp := by
  obtain ⟨oc, od, kV, doc, pm, an, cdv, ct, osl, e, lk, hcd⟩ := F.ex
  subst e
  exact fn_of lk hcd S len (hbody cdv)
theorem fn_of_body {z : Bool} {P : Program} {w : World} {K : PySem.W.Frag} {mg : Str → Option Value} {base : Heap} {J : Cn} {k n : Nat} {f : Addr} {m : Fn} {fd : FuncData} {ps : List Str} {x qual : Str} {st : Stmt} {N : List Str} {fb : Sx}
    (F : Fun K x qual st f fd) (S : FnScope N ps (defScope st)) (hn : ps.length = n) (hm : m = fnOf N.length fb)
    (body : ∀ (cdv : Value) (A : Around) (outer : List Env) (s : Shared) (H : Hp) (E : XK), Room k (A.deeper (PyProof.Rows.envOfC qual (defScope st) s.heap.objs.size f cdv)) →
      SSs J (cxOf (cxt z P w) P w K mg base N qual (defScope st) f cdv A outer s H E) (fun cls d _ H' => E cls d H') (defBody st) fb) : FnOk P w K mg base (cxt z P w) (k + 1) f fd ps (spD ⟨K, mg, J⟩ n m) := by
  subst hn; subst hm
  refine okC F S (fun vs H Q E h => ?_) (fun cdv A outer s H vs Q E hr h => ⟨_, body cdv A outer s H E hr, ?_⟩)
  · obtain ⟨ρ, F, s, ds, g, t, z, _⟩ := h
    rw [← t.length, z]
  · obtain ⟨ρ, Fz, so, ds, g, t, z, q⟩ := h
    refine ⟨_, ρ, Fz, so, g, t.slots N, ?_⟩
    unfold fnOf at q
    cases e : fb (ds.map some ++ List.replicate (N.length - ds.length) none) so with
    | fl f s' =>
      rw [e] at q
      cases f with
      | nx e1 => exact fun ρ' F' H' σ' l' g' _ => q ρ' F' H' .non l' g' (by simp only [Den])
      | rt d => exact q
      | bk d => exact False.elim q
      | ct d => exact False.elim q
    | exc c e1 s' =>
      rw [e] at q
      exact fun ρ' F' H' σ' C l' g' _ hC => q ρ' F' H' C l' g' hC
    | bad => rw [e] at q; exact q
theorem df_of {z : Bool} {P : Program} {w : World} {K : PySem.W.Frag} {mg : Str → Option Value} {base : Heap} {J : Cn} {x qual : Str} {st : Stmt} {f : Addr} {fd : FuncData} {N ps : List Str} {k : Nat} {fb : Sx}
    (F : Fun K x qual st f fd) (S : FnScope N ps (defScope st)) (hb : Binds K fd ps [])
    (body : ∀ (cdv : Value) (A : Around) (outer : List Env) (s : Shared) (H : Hp) (E : XK), Room k (A.deeper (PyProof.Rows.envOfC qual (defScope st) s.heap.objs.size f cdv)) →
      SSs J (cxOf (cxt z P w) P w K mg base N qual (defScope st) f cdv A outer s H E) (fun cls d _ H' => E cls d H') (defBody st) fb) : Df z P w K mg base J (k + 1) ps.length f (fnOf N.length fb) :=
  ⟨fd, ps, fn_of_body F S rfl rfl body, hb⟩
/-- the law's own promise at the script -/
theorem law_sp {K : PySem.W.Frag} {mg : Str → Option Value} {J : Cn} {m : Fn} (h : ∀ ns : List Int, ns.length ≤ 63 → ∃ s, m [.lsk (ns.map .int)] [] = .ok (.bl true) s) {H : Hp} {a : Addr} {ns : List Int} (hl : ns.length ≤ 63) (hs : SqL K H a (ns.map V.int)) :
    spD ⟨K, mg, J⟩ 1 m [.ref a] H (fun v _ => v = .bl true) fun _ _ _ => False := by
  obtain ⟨s, e⟩ := h ns hl
  refine ⟨[], H, [], [.lsk (ns.map .int)], ⟨fun _ _ h => h, rfl, List.nodup_nil, (fun _ h => nomatch h), (fun i a mo h => by simp at h)⟩, ?_, rfl, ?_⟩
  · simp only [Dens, Den]
    refine ⟨_, _, rfl, ⟨by rw [List.length_map, sizeLine_eq]; omega, a, _, rfl, hs, ?_⟩, rfl⟩
    clear e hl hs
    induction ns with
    | nil => simp only [List.map_nil, Dens]
    | cons n ns ih =>
      simp only [List.map_cons, Dens]
      exact ⟨_, _, rfl, by simp only [Den], ih⟩
  · rw [e]
    intro ρ' F' H' v l g r
    simp only [Den] at r
    exact r
/-! ### a body that hands back nothing -/
def NoRt (f : Sx) : Prop := ∀ env s d s', f env s ≠ .fl (.rt d) s'
theorem noRt_next : NoRt sNext := fun env s d s' h => by cases h
theorem noRt_expr {f : Ex} : NoRt (sExpr f) := fun env s d s' h => by
  unfold sExpr sBnd at h
  split at h <;> cases h
theorem noRt_setF {c i : Nat} {fo fv : Ex} : NoRt (sSetF c i fo fv) := fun env s d s' h => by
  unfold sSetF sBnd at h
  split at h
  · dsimp only at h
    split at h
    · split at h <;> cases h
    · cases h
    · cases h
  · cases h
  · cases h
theorem noRt_seq {f g : Sx} (hf : NoRt f) (hg : NoRt g) : NoRt (sSeq f g) := fun env s d s' h => by
  unfold sSeq at h
  split at h
  · exact hg _ _ _ _ h
  · exact hf _ _ _ _ h
theorem noRt_fn {n : Nat} {f : Sx} (hf : NoRt f) : ∀ ds s d s', fnOf n f ds s = .ok d s' → d = .non := fun ds s d s' h => by
  unfold fnOf at h
  split at h
  · rename_i e
    exact absurd e (hf _ _ _ _)
  · cases h; rfl
  · cases h
  · cases h
theorem _root_.L2.Room.u65 {k : Nat} {A : Around} (r : L2.Room k A) : A.units + 65 < cLine := by have := r.un; omega
theorem _root_.L2.Room.u1 {k : Nat} {A : Around} (r : L2.Room k A) : A.units + 1 < cLine := by have := r.un; omega
end Pd
namespace Pd
open PySem L2
/-! ### what a loop walks -/
structure ItS (Γ : Wd) (ρ0 : List Addr) (F0 : Hp) (T : It) (l : List Dt) (ok : Sto → Prop) : Prop where
  len : l.length ≤ sizeLine
  go : ∀ (i : Nat) ρ F s H, LD ρ0 F0 ρ F → G Γ ρ F s H → ok s → i < l.length → T.go i H
  stop : ∀ (i : Nat) ρ F s H, LD ρ0 F0 ρ F → G Γ ρ F s H → ok s → i = l.length → T.stop i H
  yld : ∀ (i : Nat) ρ F s H d x H', LD ρ0 F0 ρ F → G Γ ρ F s H → ok s → l[i]? = some d → T.yld i H x H' → ∃ F', LE ρ F H ρ F' H' ∧ G Γ ρ F' s H' ∧ Den Γ ρ F' d x
abbrev Is := En → Sto → Out (List Dt × (Sto → Prop))
def tI (Γ : Wd) (W : WX) (f : Is) : TI := fun σ H R => ∃ env ρ F s, G Γ ρ F s H ∧ Sl Γ ρ F env σ ∧ Po Γ (fun ρ F (a : List Dt × (Sto → Prop)) (T : It) => ItS Γ ρ F T a.1 a.2) ρ F H R (fun c H' => W c none σ H') (f env s)
abbrev IS (J : Cn) (X : Cx) (W : WX) (tg iter : Expr) (f : Is) : Prop := PI X tg iter (tI (wd J X) W f)
theorem PI.imp {X : Cx} {tg e : Expr} {t t' : TI} (h : PI X tg e t) (k : ∀ σ H R, t' σ H R → t σ H R) : PI X tg e t' := ⟨fun pins s σ H R I q => h.run pins s σ H R I (k σ H R q)⟩
theorem PI.or {X : Cx} {tg e : Expr} {t t' : TI} (h : PI X tg e t) (h' : PI X tg e t') : PI X tg e (fun σ H R => t σ H R ∨ t' σ H R) := ⟨fun pins s σ H R I q => by
  rcases q with q | q
  · exact h.run pins s σ H R I q
  · exact h'.run pins s σ H R I q⟩
def signs (x : Str) : List Dt := x.cps.toList.map fun c => .str ⟨#[c]⟩
/-- a list, a tuple, a text -/
def iSeq (f : Ex) : Is := fun env => bnd (f env) fun d s => match d with
  | .str x => .ok (signs x, fun _ => True) s
  | d => match asQ s d with
    | some l => .ok (l, fun s' => asQ s' d = some l) s
    | none => .bad
def iRange (f : Ex) : Is := fun env => bnd (f env) fun d s => match d with
  | .int n => if n ≤ 16777216 ∧ -(2 ^ 62) ≤ n then .ok ((List.range n.toNat).map fun (k : Nat) => .int k, fun _ => True) s else .bad
  | _ => .bad
def iRange2 (f g : Ex) : Is := fun env => bnd (f env) fun d => bnd (g env) fun e s => match d, e with
  | .int i, .int j => if (-(2 ^ 62) ≤ i ∧ i < 2 ^ 62 ∧ -(2 ^ 62) ≤ j ∧ j < 2 ^ 62) ∧ j - i ≤ 16777216 then .ok ((List.range (j - i).toNat).map fun (k : Nat) => .int (i + k), fun _ => True) s else .bad
  | _, _ => .bad
theorem its_range {Γ : Wd} {ρ : List Addr} {F : Hp} {lo : Int} {n : Nat} {l : List Dt} {ok : Sto → Prop} (hl : l = (List.range n).map fun (k : Nat) => .int (lo + k)) (hz : n ≤ sizeLine) : ItS Γ ρ F (Itr lo n) l ok where
  len := by rw [hl, List.length_map, List.length_range]; exact hz
  go := fun i _ _ _ _ _ _ _ h => by rw [hl, List.length_map, List.length_range] at h; exact h
  stop := fun i _ _ _ _ _ _ _ h => by rw [hl, List.length_map, List.length_range] at h; exact Nat.le_of_eq h.symm
  yld := fun i ρ F s H d x H' _ g _ hd y => by
    obtain ⟨e1, e2⟩ := y
    subst e1
    refine ⟨F, LE.refl, g, ?_⟩
    rw [hl, List.getElem?_map] at hd
    obtain ⟨k, e3, e4⟩ := Option.map_eq_some_iff.mp hd
    have e5 : i = k := by
      have := List.getElem?_eq_some_iff.mp e3
      obtain ⟨h1, h2⟩ := this
      simpa using h2
    subst e5; subst e4
    simp only [Den]
    exact e2
theorem its_str {Γ : Wd} {ρ : List Addr} {F : Hp} {x : Str} {ok : Sto → Prop} (hx : sok x = true) : ItS Γ ρ F (Its x) (signs x) ok where
  len := by unfold signs; rw [List.length_map]; exact (by simpa [Str.length] using sok_len hx)
  go := fun i _ _ _ _ _ _ _ h => by unfold signs at h; rw [List.length_map] at h; show i < x.cps.size; simpa using h
  stop := fun i _ _ _ _ _ _ _ h => by unfold signs at h; rw [List.length_map] at h; exact Nat.le_of_eq (by simpa using h.symm)
  yld := fun i ρ F s H d v H' _ g _ hd y => by
    obtain ⟨e1, c, e2, e3⟩ := y
    subst e1
    refine ⟨F, LE.refl, g, ?_⟩
    unfold signs at hd
    rw [List.getElem?_map] at hd
    obtain ⟨k, e4, e5⟩ := Option.map_eq_some_iff.mp hd
    have e6 : c = k := by
      have z : x.cps.toList[i]? = some c := by simpa using e2
      rw [z] at e4
      exact Option.some.inj e4
    subst e6; subst e5
    simp only [Den]
    exact ⟨e3, sok_sign hx (List.mem_of_getElem? e4)⟩
theorem its_list {Γ : Wd} {ρ : List Addr} {F : Hp} {d : Dt} {v : V} {a : Addr} {l : List Dt} (r : Den Γ ρ F d v) (e : v = .ref a) (hq : ∀ s : Sto, asQ s d = asL s d) (hz : l.length ≤ sizeLine) : ItS Γ ρ F (Itl Γ.K a) l (fun s => asQ s d = some l) where
  len := hz
  go := fun i ρ1 F1 s H ld g ok h => by
    obtain ⟨b, xs, e1, q, t, _⟩ := g.sqL (Den.monoD ld d v r) (by rw [← hq]; exact ok)
    rw [e] at e1; cases e1
    have hx : i < xs.length := by rw [← t.length]; exact h
    exact ⟨xs, xs[i], q, List.getElem?_eq_getElem hx⟩
  stop := fun i ρ1 F1 s H ld g ok h => by
    obtain ⟨b, xs, e1, q, t, _⟩ := g.sqL (Den.monoD ld d v r) (by rw [← hq]; exact ok)
    rw [e] at e1; cases e1
    exact ⟨xs, q, by rw [← t.length]; exact Nat.le_of_eq h.symm⟩
  yld := fun i ρ1 F1 s H d' x H' ld g ok hd y => by
    obtain ⟨b, xs, e1, q, t, _⟩ := g.sqL (Den.monoD ld d v r) (by rw [← hq]; exact ok)
    rw [e] at e1; cases e1
    obtain ⟨e2, hy⟩ := y
    subst e2
    obtain ⟨u, e3, ru⟩ := t.get hd
    rw [hy xs q] at e3
    cases e3
    exact ⟨F1, LE.refl, g, ru⟩
theorem its_tup {Γ : Wd} {ρ : List Addr} {F : Hp} {v : V} {a : Addr} {l : List Dt} {ok : Sto → Prop} (r : Den Γ ρ F (.tup l) v) (e : v = .ref a) (hz : l.length ≤ sizeLine) : ItS Γ ρ F (Itt Γ.K a) l ok where
  len := hz
  go := fun i ρ1 F1 s H ld g _ h => by
    obtain ⟨b, xs, e1, q, t, _⟩ := g.sqT (Den.monoD ld _ v r) (l := l) rfl
    rw [e] at e1; cases e1
    have hx : i < xs.length := by rw [← t.length]; exact h
    exact ⟨xs, xs[i], q, List.getElem?_eq_getElem hx⟩
  stop := fun i ρ1 F1 s H ld g _ h => by
    obtain ⟨b, xs, e1, q, t, _⟩ := g.sqT (Den.monoD ld _ v r) (l := l) rfl
    rw [e] at e1; cases e1
    exact ⟨xs, q, by rw [← t.length]; exact Nat.le_of_eq h.symm⟩
  yld := fun i ρ1 F1 s H d' x H' ld g _ hd y => by
    obtain ⟨b, xs, e1, q, t, _⟩ := g.sqT (Den.monoD ld _ v r) (l := l) rfl
    rw [e] at e1; cases e1
    obtain ⟨e2, hy⟩ := y
    subst e2
    obtain ⟨u, e3, ru⟩ := t.get hd
    rw [hy xs q] at e3
    cases e3
    exact ⟨F1, LE.refl, g, ru⟩
section
variable {J : Cn} {X : Cx} {W : WX} {a b c e e2 o tgt : Expr} {es : List Expr} {fa fb fc fe fo : Ex} {fs : List Ex} {ft fu : Tx} {pos p : Pos} {st : Stmt} {rest : List Stmt} {f1 f2 : Sx}
theorem is_seq (h : ES J X W e fe) : IS J X W tgt e (iSeq fe) :=
  PI.imp (PI.or (pi_list h) (PI.or (pi_tup h) (pi_str h))) fun σ H R ⟨env, ρ, F, s, g, l, k⟩ => by
    unfold iSeq at k
    have case_bad : fe env s = .bad → False := fun e => by unfold bnd at k; rw [e] at k; exact k
    cases ev : fe env s with
    | bad => exact (case_bad ev).elim
    | exc c s1 =>
      unfold bnd at k
      rw [ev] at k
      exact .inl ⟨env, ρ, F, s, g, l, by rw [ev]; exact k⟩
    | ok d s1 =>
      have k' := k
      unfold bnd at k'
      rw [ev] at k'
      have gen : (∀ s, asQ s d = asL s d) → ∀ l', asQ s1 d = some l' → Po (wd J X) (fun ρ F (a : List Dt × (Sto → Prop)) (T : It) => ItS (wd J X) ρ F T a.1 a.2) ρ F H R (fun c H' => W c none σ H') (.ok (l', fun s' => asQ s' d = some l') s1) → iList X.K (tE (wd J X) W fe) σ H R := fun hq l' hl kk =>
        ⟨env, ρ, F, s, g, l, by
          rw [ev]
          exact fun ρ1 F1 H1 v l1 g1 r1 => by
            obtain ⟨x, xs, e1, q, t, z⟩ := g1.sqL r1 (by rw [← hq]; exact hl)
            exact ⟨x, e1, ⟨xs, q⟩, kk ρ1 F1 H1 _ l1 g1 (its_list r1 e1 hq z)⟩⟩
      cases d with
      | str z =>
        refine .inr (.inr ⟨env, ρ, F, s, g, l, ?_⟩)
        rw [ev]
        exact fun ρ1 F1 H1 v l1 g1 r1 => by
          simp only [Den] at r1
          exact ⟨z, r1.1, k' ρ1 F1 H1 _ l1 g1 (its_str r1.2)⟩
      | tup l' =>
        refine .inr (.inl ⟨env, ρ, F, s, g, l, ?_⟩)
        rw [ev]
        exact fun ρ1 F1 H1 v l1 g1 r1 => by
          obtain ⟨x, xs, e1, q, t, z⟩ := g1.sqT r1 (l := l') rfl
          exact ⟨x, e1, ⟨xs, q⟩, k' ρ1 F1 H1 _ l1 g1 (its_tup r1 e1 z)⟩
      | lst l' => exact .inl (gen (fun _ => rfl) l' rfl k')
      | lsk l' => exact .inl (gen (fun _ => rfl) l' rfl k')
      | obj j =>
        simp only [] at k'
        cases eq : asQ s1 (.obj j) with
        | none => rw [eq] at k'; exact False.elim k'
        | some l' => rw [eq] at k'; exact .inl (gen (fun _ => rfl) l' eq k')
      | _ => exact False.elim k'
theorem is_range (hg : Gl X "range") (hm : X.mg "range" = none) (h : ES J X W e fe) (hs : starEach [e] X.env = [(false, eval e X.env)] := by rfl) : IS J X W tgt (.Call (.Name "range" p) [e] [] pos) (iRange fe) :=
  PI.imp (pi_range1 hg hm (pa_cons h pa_nil hs) hs) fun σ H R ⟨env, ρ, F, s, g, l, k⟩ => ⟨env, ρ, F, s, g, l, Po.bind k fun d s1 ρ1 F1 H1 v e1 l1 g1 r1 k1 => by
    cases d with
    | int n =>
      simp only [] at k1
      split at k1
      · rename_i hz
        simp only [Den] at r1
        exact ⟨n, by rw [r1], hz.2, by omega, k1 ρ1 F1 H1 _ LE.refl g1 (its_range (by simp) (by rw [sizeLine_eq]; omega))⟩
      · exact False.elim k1
    | _ => exact False.elim k1⟩
theorem is_range2 (hg : Gl X "range") (hm : X.mg "range" = none) (h : ES J X W a fa) (h' : ES J X W b fb) (hs : starEach [a, b] X.env = [(false, eval a X.env), (false, eval b X.env)] := by rfl) (hs2 : starEach [b] X.env = [(false, eval b X.env)] := by rfl) : IS J X W tgt (.Call (.Name "range" p) [a, b] [] pos) (iRange2 fa fb) := by
  have z1 : starEach (a :: [b]) X.env = (false, eval a X.env) :: starEach [b] X.env := by rw [hs2]; exact hs
  exact PI.imp (pi_range2 hg hm (pa_cons h (pa_cons h' pa_nil hs2) z1) hs hs2) fun σ H R ⟨env, ρ, F, s, g, l, k⟩ => ⟨env, ρ, F, s, g, l, Po.bind k fun d s1 ρ1 F1 H1 v e1 l1 g1 r1 k1 => ⟨env, ρ1, F1, s1, g1, l.mono l1, Po.bind k1 fun d2 s2 ρ2 F2 H2 v2 e2 l2 g2 r2 k2 => by
    cases d with
    | int i =>
      cases d2 with
      | int j =>
        simp only [] at k2
        split at k2
        · rename_i hz
          simp only [Den] at r1 r2
          exact ⟨i, j, by rw [r1, r2], hz.1, k2 ρ2 F2 H2 _ LE.refl g2 (its_range rfl (by rw [sizeLine_eq]; omega))⟩
        · exact False.elim k2
      | _ => exact False.elim k2
    | _ => exact False.elim k2⟩⟩
/-! ### for, while -/
open Classical in
noncomputable def forGo (tg : Tg) (body : Sx) (ok : Sto → Prop) : List Dt → Sx
  | [], env, s => if ok s then .fl (.nx env) s else .bad
  | d :: r, env, s => if ok s then match tg d env s with
      | some env1 => match body env1 s with
        | .fl (.nx e) s' => forGo tg body ok r e s'
        | .fl (.ct e) s' => forGo tg body ok r e s'
        | .fl (.bk e) s' => .fl (.nx e) s'
        | .fl (.rt d) s' => .fl (.rt d) s'
        | .exc c e s' => .exc c e s'
        | .bad => .bad
      | none => .bad
    else .bad
noncomputable def sFor (fi : Is) (tg : Tg) (body : Sx) : Sx := fun env => sBnd (fi env) env fun p => forGo tg body p.2 p.1 env
theorem ss_for {iter : Expr} {body : List Stmt} {fi : Is} {is : List Nat} {tg : Tg} (hp : PassesOwn (model X.prog X.w) X.A X.env X.xe) (hc : X.calm = true) (hi : IS J X W tgt iter fi) (hg : GS J X tgt is tg) (hb : SSs J X W body f1)
    (hs : ∀ x, foldedSetIterable iter X.env x = pure x := by intro _; rfl) : SS J X W (.For tgt iter body [] pos) (sFor fi tg f1) :=
  PS.imp (ps_for hp hc hi hg hb hs) fun D σ H ⟨env, ρ, F, s, g, l, k⟩ => ⟨env, ρ, F, s, g, l, FPo.bind k l fun q s1 ρ1 F1 H1 T e1 l1 g1 r1 k1 => by
    obtain ⟨its, ok⟩ := q
    refine ⟨fun i m σ H => i ≤ its.length ∧ m = its.length - i ∧ ∃ env ρ F s, LE ρ1 F1 H1 ρ F H ∧ G (wd J X) ρ F s H ∧ Sl (wd J X) ρ F env σ ∧ FPo (wd J X) W ρ F H D (forGo tg f1 ok (its.drop i) env s), ⟨_, Nat.zero_le _, rfl, env, ρ1, F1, s1, LE.refl, g1, l.mono l1, k1⟩, ?_⟩
    rintro i m σ2 H2 ⟨hi, em, env2, ρ2, F2, s2, l2, g2, sl2, k2⟩
    by_cases hlt : i < its.length
    · obtain ⟨d, hd⟩ : ∃ d, its[i]? = some d := ⟨its[i], List.getElem?_eq_getElem hlt⟩
      have hdr : its.drop i = d :: its.drop (i + 1) := by
        rw [List.drop_eq_getElem_cons hlt]
        congr 1
        have := List.getElem?_eq_some_iff.mp hd
        exact this.2
      rw [hdr] at k2
      simp only [forGo] at k2
      split at k2
      · rename_i hok
        cases et : tg d env2 s2 with
        | none => rw [et] at k2; exact False.elim k2
        | some env3 =>
          rw [et] at k2
          simp only [] at k2
          refine .inr ⟨r1.go i ρ2 F2 s2 H2 l2.ld g2 hok hlt, fun σ' H' => i + 1 ≤ its.length ∧ its.length - (i + 1) = its.length - (i + 1) ∧ ∃ env ρ F s, LE ρ1 F1 H1 ρ F H' ∧ G (wd J X) ρ F s H' ∧ Sl (wd J X) ρ F env σ' ∧ FPo (wd J X) W ρ F H' D (forGo tg f1 ok (its.drop (i + 1)) env s), fun σ' H' hN => ⟨its.length - (i + 1), by rw [em]; omega, hN⟩, fun x H' hy => ?_⟩
          obtain ⟨F3, l3, g3, rd⟩ := r1.yld i ρ2 F2 s2 H2 d x H' l2.ld g2 hok hd hy
          refine ⟨env2, ρ2, F3, s2, d, env3, g3, sl2.mono l3, rd, et, fun σ4 sl4 _ _ => ⟨env3, ρ2, F3, s2, g3, sl4, ?_⟩⟩
          have k3 := k2.le l3
          cases eb : f1 env3 s2 with
          | fl f s4 =>
            rw [eb] at k3
            cases f with
            | nx e4 => exact fun ρ5 F5 H5 σ5 l5 g5 sl5 => ⟨hlt, rfl, e4, ρ5, F5, s4, (l2.trans l3).trans l5, g5, sl5, k3.le l5⟩
            | ct e4 => exact fun ρ5 F5 H5 σ5 l5 g5 sl5 => ⟨hlt, rfl, e4, ρ5, F5, s4, (l2.trans l3).trans l5, g5, sl5, k3.le l5⟩
            | rt d4 => exact k3
            | bk e4 => exact k3
          | exc c4 e4 s4 => rw [eb] at k3; exact k3
          | bad => rw [eb] at k3; exact k3
      · exact False.elim k2
    · have hie : i = its.length := by omega
      have hdr : its.drop i = [] := List.drop_eq_nil_of_le (by omega)
      rw [hdr] at k2
      simp only [forGo] at k2
      split at k2
      · rename_i hok
        exact .inl ⟨r1.stop i ρ2 F2 s2 H2 l2.ld g2 hok hie, k2 ρ2 F2 H2 σ2 LE.refl g2 sl2⟩
      · exact False.elim k2⟩
def whGo (t : Tx) (body : Sx) : Nat → Sx
  | 0, _, _ => .bad
  | n + 1, env, s => sBnd (t env) env (fun c s1 => if c = true then (match body env s1 with
      | .fl (.nx e) s' => whGo t body n e s'
      | .fl (.ct e) s' => whGo t body n e s'
      | .fl (.bk e) s' => .fl (.nx e) s'
      | .fl (.rt d) s' => .fl (.rt d) s'
      | .exc c e s' => .exc c e s'
      | .bad => .bad) else .fl (.nx env) s1) s
theorem ss_while {body : List Stmt} (n : Nat) (hp : PassesOwn (model X.prog X.w) X.A X.env X.xe) (hc : TSo J X W c ft) (hb : SSs J X W body f1) : SS J X W (.While c body [] pos) (whGo ft f1 n) :=
  PS.imp (ps_while hp hc hb) fun D σ H ⟨env, ρ, F, s, g, l, k⟩ => by
    refine ⟨fun m σ H => ∃ env ρ F s, G (wd J X) ρ F s H ∧ Sl (wd J X) ρ F env σ ∧ FPo (wd J X) W ρ F H D (whGo ft f1 m env s), ⟨n, env, ρ, F, s, g, l, k⟩, ?_⟩
    rintro m σ2 H2 ⟨env2, ρ2, F2, s2, g2, sl2, k2⟩
    cases m with
    | zero => exact False.elim k2
    | succ m =>
      simp only [whGo] at k2
      refine ⟨env2, ρ2, F2, s2, g2, sl2, FPo.bind k2 sl2 fun cb s3 ρ3 F3 H3 bb e3 l3 g3 r3 k3 => ?_⟩
      subst r3
      cases cb with
      | false => exact k3 ρ3 F3 H3 σ2 LE.refl g3 (sl2.mono l3)
      | true =>
        refine ⟨fun σ' H' => ∃ env ρ F s, G (wd J X) ρ F s H' ∧ Sl (wd J X) ρ F env σ' ∧ FPo (wd J X) W ρ F H' D (whGo ft f1 m env s), fun σ' H' hN => ⟨m, Nat.lt_succ_self _, hN⟩, env2, ρ3, F3, s3, g3, sl2.mono l3, ?_⟩
        simp only [if_true] at k3
        cases eb : f1 env2 s3 with
        | fl f s4 =>
          rw [eb] at k3
          cases f with
          | nx e4 => exact fun ρ5 F5 H5 σ5 l5 g5 sl5 => ⟨e4, ρ5, F5, s4, g5, sl5, k3.le l5⟩
          | ct e4 => exact fun ρ5 F5 H5 σ5 l5 g5 sl5 => ⟨e4, ρ5, F5, s4, g5, sl5, k3.le l5⟩
          | rt d4 => exact k3
          | bk e4 => exact k3
        | exc c4 e4 s4 => rw [eb] at k3; exact k3
        | bad => rw [eb] at k3; exact k3
end
end Pd
namespace Pd
open PySem L2
/-! ### comprehensions -/
/-- one computation behind another that raises nothing -/
def bndN {α β : Type} (m : Sto → Out α) (k : α → Sto → Out β) (s : Sto) : Out β := match m s with
  | .ok a s' => k a s'
  | _ => .bad
theorem Po.bindN {α β γ δ : Type} {Γ : Wd} {R1 : List Addr → Hp → α → β → Prop} {R2 : List Addr → Hp → γ → δ → Prop} {ρ0 ρ : List Addr} {F0 H0 F H : Hp} {Q : δ → Hp → Prop} {Q1 : β → Hp → Prop} {E E' : Value → Hp → Prop} {m : Sto → Out α} {k : α → Sto → Out γ} {s : Sto}
    (h : Po Γ R2 ρ0 F0 H0 Q E (bndN m k s)) (hk : ∀ a s', m s = .ok a s' → Po Γ R2 ρ0 F0 H0 Q E (k a s') → ∀ ρ' F' H' v, LE ρ F H ρ' F' H' → G Γ ρ' F' s' H' → R1 ρ' F' a v → Q1 v H') : Po Γ R1 ρ F H Q1 E' (m s) := by
  unfold bndN at h
  cases e : m s with
  | ok a s' => rw [e] at h; exact hk a s' e h
  | exc c s' => rw [e] at h; exact False.elim h
  | bad => rw [e] at h; exact False.elim h
theorem LE.at_new {ρ ρ' : List Addr} {F H F' H' : Hp} (l : LE ρ F H ρ' F' H') {p : Addr} {o : HO} (hp : H p = none) : LE ρ F H ρ' F' (upd H' p o) where
  ld := l.ld
  fr := l.fr
  ff := l.ff
  keep := fun a u h n => by rw [upd_ne (ne_of_none h hp)]; exact l.keep a u h n
  there := fun a u h => by
    obtain ⟨w, q⟩ := l.there a u h
    exact ⟨w, by rw [upd_ne (ne_of_none h hp)]; exact q⟩
open Classical in
noncomputable def lcGo (tg : Tg) (ft : Tx) (fe : Ex) (ok : Sto → Prop) : List Dt → En → Sto → Out (List Dt)
  | [], _, s => if ok s then .ok [] s else .bad
  | d :: r, env, s => if ok s then match tg d env s with
      | some env1 => bndN (ft env1) (fun b s1 => if b = true then bndN (fe env1) (fun y => bndN (lcGo tg ft fe ok r env) fun ys s => .ok (y :: ys) s) s1 else lcGo tg ft fe ok r env s1) s
      | none => .bad
    else .bad
def wipeD (env : En) : List Nat → En
  | [] => env
  | v :: vs => (wipeD env vs).set v none
noncomputable def eLc (nw : List Dt → Sto → Out Dt) (vs : List Nat) (fi : Is) (tg : Tg) (ft : Tx) (fe : Ex) : Ex := fun env => bnd (fi env) fun p => bndN (lcGo tg ft fe p.2 p.1 (wipeD env vs)) nw
theorem Sl.wipe {Γ : Wd} {ρ : List Addr} {F : Hp} {env : En} {σ : St} (h : Sl Γ ρ F env σ) : ∀ vs : List Nat, Sl Γ ρ F (wipeD env vs) (L2.wipe σ vs)
  | [] => h
  | v :: vs => (Sl.wipe h vs).unset v
theorem wipe_in {τ : St} {j : Nat} : ∀ {vs : List Nat}, j ∈ vs → (L2.wipe τ vs)[j]? = if j < τ.length then some none else none
  | v :: vs, h => by
    show ((L2.wipe τ vs).set v none)[j]? = _
    by_cases e : v = j
    · subst e
      by_cases hl : v < τ.length
      · rw [if_pos hl, List.getElem?_set_self (by rw [wipe_length]; exact hl)]
      · rw [if_neg hl]
        exact List.getElem?_eq_none (by rw [List.length_set, wipe_length]; omega)
    · rw [List.getElem?_set_ne e]
      exact wipe_in (by
        rcases List.mem_cons.mp h with h | h
        · exact absurd h.symm e
        · exact h)
theorem wipe_same {σ σ2 : St} {is vs : List Nat} (hsub : ∀ i ∈ is, i ∈ vs) (hl : σ2.length = (L2.wipe σ vs).length) (h : ∀ j, j ∉ is → σ2[j]? = (L2.wipe σ vs)[j]?) : L2.wipe σ2 vs = L2.wipe σ vs := by
  apply List.ext_getElem?
  intro j
  by_cases hj : j ∈ vs
  · rw [wipe_in hj, wipe_in hj, hl, wipe_length]
  · rw [wipe_out hj]
    exact h j fun z => hj (hsub j z)
section
variable {J : Cn} {X : Cx} {W : WX} {a b c e e2 o tgt iter elt : Expr} {es ifs : List Expr} {fa fb fc fe fo : Ex} {fs : List Ex} {ft fu : Tx} {pos p : Pos} {st : Stmt} {rest : List Stmt} {f1 f2 : Sx} {fi : Is} {is : List Nat} {tg : Tg}
abbrev W0 : WX := fun _ _ _ _ => False
/-- what holds of the new list once it is whole -/
theorem lst_done {nw : List Dt → Sto → Out Dt} (n : IsNw nw) {Γ : Wd} {ρ0 ρ : List Addr} {F0 H0 F H : Hp} {s : Sto} {acc : List Dt} {xs : List V} {D : Addr} {Q : VK} {E : Value → Hp → Prop} (g : G Γ ρ F s H) (l : LE ρ0 F0 H0 ρ F H) (t : Dens Γ ρ F acc xs) (hz : acc.length ≤ sizeLine) (hD : H D = some (.lst xs)) (h0 : H0 D = none) (nr : D ∉ ρ) (nf : F D = none)
    (k : EPo Γ ρ0 F0 H0 Q E (nw acc s)) : Q (.ref D) H := by
  have eH : upd H D (.lst xs) = H := by
    funext x
    by_cases e : x = D
    · subst e; rw [upd_same, hD]
    · rw [upd_ne e]
  rcases n with n | n
  · subst n
    have ld : LD ρ F ρ (upd F D (.lst xs)) := LD.upd nf
    refine k ρ (upd F D (.lst xs)) H _ ⟨l.ld.trans ld, l.fr, fun a o h => ?_, l.keep, l.there⟩ ⟨fun a o h => ?_, g.len, g.nd, fun a h => ?_, fun i a mo h1 h2 => (g.at_ i a mo h1 h2).mono ld rfl⟩ ?_
    · by_cases e : a = D
      · subst e; exact .inr (.inl h0)
      · rw [upd_ne e] at h; exact l.ff a o h
    · by_cases e : a = D
      · subst e; rw [upd_same] at h; cases h; exact hD
      · rw [upd_ne e] at h; exact g.sub a o h
    · rw [upd_ne (fun z => nr (by rw [← z]; exact h))]; exact g.sep a h
    · simp only [Den]
      exact ⟨hz, D, xs, rfl, upd_same, Dens.monoD ld _ _ t⟩
  · subst n
    have ld : LD ρ F (ρ ++ [D]) F := LD.push
    refine k (ρ ++ [D]) F H _ ⟨l.ld.trans ld, fun a h => ?_, l.ff, l.keep, l.there⟩ ⟨g.sub, by simp [g.len], ?_, fun a h => ?_, fun i a m h1 h2 => ?_⟩ ?_
    · rcases List.mem_append.mp h with h | h
      · exact l.fr a h
      · rw [List.mem_singleton] at h; rw [h]; exact .inr h0
    · refine List.nodup_append.mpr ⟨g.nd, by simp, fun a ha b hb => ?_⟩
      rw [List.mem_singleton] at hb
      rw [hb]
      exact fun z => nr (by rw [← z]; exact ha)
    · rcases List.mem_append.mp h with h | h
      · exact g.sep a h
      · rw [List.mem_singleton] at h; rw [h]; exact .inl nf
    · by_cases hi : i < ρ.length
      · rw [List.getElem?_append_left hi] at h1
        rw [List.getElem?_append_left (by rw [← g.len]; exact hi)] at h2
        exact (g.at_ i a m h1 h2).mono ld rfl
      · rw [List.getElem?_append_right (by omega)] at h1
        rw [List.getElem?_append_right (by rw [← g.len]; omega)] at h2
        have e0 : i - ρ.length = 0 := by
          have := (List.getElem?_eq_some_iff.mp h1).1
          simp at this
          omega
        rw [e0] at h1
        rw [← g.len, e0] at h2
        cases h1
        cases h2
        exact ⟨hz, xs, hD, Dens.monoD ld _ _ t⟩
    · simp only [Den]
      exact ⟨D, rfl, by rw [← g.len, List.getElem?_append_right (Nat.le_refl _), Nat.sub_self]; rfl⟩
theorem lc_of {nw : List Dt → Sto → Out Dt} (n : IsNw nw) {vs : List Nat} (hsub : ∀ i ∈ is, i ∈ vs) {σ : St} {H : Hp} {Q : VK} (h : tE (wd J X) W (eLc nw vs fi tg ft fe) σ H Q) : tLc (tI (wd J X) W fi) (tG (wd J X) is tg) (tT (wd J X) W0 ft) (tE (wd J X) W0 fe) vs σ H Q := by
  obtain ⟨env, ρ, F, s, g, l, k⟩ := h
  refine ⟨env, ρ, F, s, g, l, Po.bind k fun q s1 ρ1 F1 H1 T e1 l1 g1 r1 k1 D hD => ?_⟩
  obtain ⟨its, ok⟩ := q
  have swl := (l.mono l1).wipe vs
  refine ⟨fun i m H => i ≤ its.length ∧ m = its.length - i ∧ ∃ ρ F s acc xs, LE ρ1 F1 H1 ρ F H ∧ G (wd J X) ρ F s H ∧ D ∉ ρ ∧ F D = none ∧ H D = some (.lst xs) ∧ Dens (wd J X) ρ F acc xs ∧ acc.length ≤ i ∧
      EPo (wd J X) ρ1 F1 H1 Q (fun c H' => W c none σ H') (bndN (lcGo tg ft fe ok (its.drop i) (wipeD env vs)) (fun ds => nw (acc ++ ds)) s), ?_, ?_⟩
  · refine ⟨its.length, Nat.zero_le _, rfl, ρ1, F1, s1, [], [], LE.skip hD, g1.skip _ hD, fun z => ?_, g1.fnone hD, upd_same, by simp only [Dens], Nat.le_refl _, k1⟩
    exact (g1.new_ne hD z) rfl
  · rintro i m H2 ⟨hi, em, ρ2, F2, s2, acc, xs, l2, g2, nr, nf, hDx, t, hac, k2⟩
    by_cases hlt : i < its.length
    · obtain ⟨d, hd⟩ : ∃ d, its[i]? = some d := ⟨its[i], List.getElem?_eq_getElem hlt⟩
      have hdr : its.drop i = d :: its.drop (i + 1) := by
        rw [List.drop_eq_getElem_cons hlt]
        congr 1
        exact (List.getElem?_eq_some_iff.mp hd).2
      rw [hdr] at k2
      have hok : ok s2 := by
        apply Classical.byContradiction
        intro hno
        simp only [bndN, lcGo, if_neg hno] at k2
        exact k2
      cases et : tg d (wipeD env vs) s2 with
      | none => simp only [bndN, lcGo, if_pos hok, et] at k2; exact False.elim k2
      | some env1 =>
        refine .inr ⟨r1.go i ρ2 F2 s2 H2 l2.ld g2 hok hlt, fun H' => i + 1 ≤ its.length ∧ its.length - (i + 1) = its.length - (i + 1) ∧ ∃ ρ F s acc xs, LE ρ1 F1 H1 ρ F H' ∧ G (wd J X) ρ F s H' ∧ D ∉ ρ ∧ F D = none ∧ H' D = some (.lst xs) ∧ Dens (wd J X) ρ F acc xs ∧ acc.length ≤ i + 1 ∧
          EPo (wd J X) ρ1 F1 H1 Q (fun c H' => W c none σ H') (bndN (lcGo tg ft fe ok (its.drop (i + 1)) (wipeD env vs)) (fun ds => nw (acc ++ ds)) s), fun H' hN => ⟨_, by rw [em]; omega, hN⟩, fun x H' hy => ?_⟩
        obtain ⟨F3, l3, g3, rd⟩ := r1.yld i ρ2 F2 s2 H2 d x H' l2.ld g2 hok hd hy
        have swl3 := (swl.mono l2).mono l3
        refine ⟨_, ρ2, F3, s2, d, env1, g3, swl3, rd, et, fun σ2 sl2 z1 z2 => ⟨wipe_same hsub z1 z2, env1, ρ2, F3, s2, g3, sl2, ?_⟩⟩
        -- the test
        have k3 : EPo (wd J X) ρ1 F1 H1 Q (fun c H' => W c none σ H') (bndN (ft env1) (fun b s1 => if b = true then bndN (fe env1) (fun y => bndN (lcGo tg ft fe ok (its.drop (i + 1)) (wipeD env vs)) fun ys => nw (acc ++ (y :: ys))) s1 else bndN (lcGo tg ft fe ok (its.drop (i + 1)) (wipeD env vs)) (fun ds => nw (acc ++ ds)) s1) s2) := by
          have e : bndN (lcGo tg ft fe ok (d :: its.drop (i + 1)) (wipeD env vs)) (fun ds => nw (acc ++ ds)) s2 = (bndN (ft env1) (fun b s1 => if b = true then bndN (fe env1) (fun y => bndN (lcGo tg ft fe ok (its.drop (i + 1)) (wipeD env vs)) fun ys => nw (acc ++ (y :: ys))) s1 else bndN (lcGo tg ft fe ok (its.drop (i + 1)) (wipeD env vs)) (fun ds => nw (acc ++ ds)) s1) s2) := by
            simp only [bndN, lcGo, if_pos hok, et]
            cases ft env1 s2 with
            | ok b s3 =>
              cases b with
              | true =>
                simp only [if_true]
                cases fe env1 s3 with
                | ok y s4 =>
                  simp only []
                  cases lcGo tg ft fe ok (its.drop (i + 1)) (wipeD env vs) s4 <;> rfl
                | _ => rfl
              | false => simp
            | _ => rfl
          rw [← e]; exact k2
        have nr3 : D ∉ ρ2 := nr
        have nf3 : F3 D = none := by
          cases e : F3 D with
          | none => rfl
          | some o =>
            rcases l3.ff D o e with ⟨u, z⟩ | z | ⟨_, _, z⟩
            · rw [nf] at z; cases z
            · rw [hDx] at z; cases z
            · rw [hDx] at z; cases z
        have hD3 : H' D = some (.lst xs) := l3.keep D _ hDx nr
        have stay : ∀ {ρ' : List Addr} {F' H3 : Hp}, LE ρ2 F3 H' ρ' F' H3 → D ∉ ρ' ∧ F' D = none ∧ H3 D = some (.lst xs) := fun {ρ' F' H3} l => by
          refine ⟨fun z => ?_, ?_, l.keep D _ hD3 nr3⟩
          · rcases l.fr D z with z | z
            · exact nr3 z
            · rw [hD3] at z; cases z
          · cases e : F' D with
            | none => rfl
            | some o =>
              rcases l.ff D o e with ⟨u, z⟩ | z | ⟨_, _, z⟩
              · rw [nf3] at z; cases z
              · rw [hD3] at z; cases z
              · rw [hD3] at z; cases z
        refine Po.bindN k3 fun b s3 eb k4 ρ4 F4 H4 b' l4 g4 r4 => ?_
        subst r4
        cases b with
        | false =>
          simp only [Bool.false_eq_true, if_false] at k4
          obtain ⟨w1, w2, w3⟩ := stay l4
          rw [if_neg Bool.false_ne_true]
          exact ⟨hlt, rfl, ρ4, F4, s3, acc, xs, (l2.trans l3).trans l4, g4, w1, w2, w3, Dens.mono (l3.trans l4) _ _ t, Nat.le_succ_of_le hac, k4⟩
        | true =>
          simp only [if_true] at k4
          rw [if_pos rfl]
          refine ⟨env1, ρ4, F4, s3, g4, sl2.mono l4, Po.bindN k4 fun y s5 ey k5 ρ5 F5 H5 v l5 g5 r5 => ?_⟩
          obtain ⟨w1, w2, w3⟩ := stay (l4.trans l5)
          refine ⟨xs, w3, ?_, hlt, rfl, ρ5, F5, s5, acc ++ [y], xs ++ [v], ((l2.trans l3).trans (l4.trans l5)).at_new hD, g5.other _ w1 w2, w1, w2, upd_same, Dens.append (Dens.mono (l3.trans (l4.trans l5)) _ _ t) (Dens.one r5), by rw [List.length_append]; simpa using hac, ?_⟩
          · rw [← t.length]
            exact Nat.lt_of_le_of_lt hac (Nat.lt_of_lt_of_le hlt r1.len)
          · have e : (fun ds => nw (acc ++ [y] ++ ds)) = fun ys => nw (acc ++ (y :: ys)) := by funext ys; rw [List.append_assoc]; rfl
            rw [e]
            exact k5
    · have hie : i = its.length := by omega
      have hdr : its.drop i = [] := List.drop_eq_nil_of_le (by omega)
      rw [hdr] at k2
      have hok : ok s2 := by
        apply Classical.byContradiction
        intro hno
        simp only [bndN, lcGo, if_neg hno] at k2
        exact k2
      simp only [bndN, lcGo, if_pos hok, List.append_nil] at k2
      exact .inl ⟨r1.stop i ρ2 F2 s2 H2 l2.ld g2 hok hie, lst_done n g2 l2 t (Nat.le_trans hac (by rw [hie]; exact r1.len)) hDx hD nr nf k2⟩
theorem es_lc {nw : List Dt → Sto → Out Dt} (n : IsNw nw) {scope : Scope} {own : List (Str × Nat)} (hc : X.calm = true) (hN : X.N.Nodup) (hi : IS J X W tgt iter fi) (ok : BlkOk X.N X.env.scope scope own) (hsub : ∀ i ∈ is, i ∈ own.map (·.2))
    (hg : ∀ (s : Shared) (H : Hp) (C : Addr) (cl : List (Str × Addr)) (fp : List Addr), GS J (X.blk s H scope (compEnvC scope cl C X.env) fp) tgt is tg) (ht : ∀ (s : Shared) (H : Hp) (C : Addr) (cl : List (Str × Addr)) (fp : List Addr), PTs (X.blk s H scope (compEnvC scope cl C X.env) fp) ifs (tT (wd J X) W0 ft))
    (he : ∀ (s : Shared) (H : Hp) (C : Addr) (cl : List (Str × Addr)) (fp : List Addr), ES J (X.blk s H scope (compEnvC scope cl C X.env) fp) W0 elt fe) (hs : ∀ x, foldedSetIterable iter X.env x = pure x := by intro _; rfl) :
    ES J X W (.ListComp elt [⟨tgt, iter, ifs, 0⟩] scope pos) (eLc nw (own.map (·.2)) fi tg ft fe) :=
  PE.imp (pe_lc hc hN hi ok hg ht he hs) fun σ H Q h => lc_of n hsub h
theorem ss_setLc {nw : List Dt → Sto → Out Dt} (n : IsNw nw) {i : Nat} {y : Str} {py spos : Pos} {scope : Scope} {own : List (Str × Nat)} (hc : X.calm = true) (hN : X.N.Nodup) (hy : X.N[i]? = some y) (hyl : X.env.scope.names.lookup y = some .local)
    (hsw : swapsWith (.ListComp elt [⟨tgt, iter, ifs, 0⟩] scope pos) (some (.Name y py)) spos.line X.env = pure true) (hi : IS J X W tgt iter fi) (ok : BlkOk X.N X.env.scope scope own) (hsub : ∀ i ∈ is, i ∈ own.map (·.2))
    (hg : ∀ (s : Shared) (H : Hp) (C : Addr) (cl : List (Str × Addr)) (fp : List Addr), GS J (X.blk s H scope (compEnvC scope cl C X.env) fp) tgt is tg) (ht : ∀ (s : Shared) (H : Hp) (C : Addr) (cl : List (Str × Addr)) (fp : List Addr), PTs (X.blk s H scope (compEnvC scope cl C X.env) fp) ifs (tT (wd J X) W0 ft))
    (he : ∀ (s : Shared) (H : Hp) (C : Addr) (cl : List (Str × Addr)) (fp : List Addr), ES J (X.blk s H scope (compEnvC scope cl C X.env) fp) W0 elt fe) (hs : ∀ x, foldedSetIterable iter X.env x = pure x := by intro _; rfl) :
    SS J X W (.Assign [.Name y py] (.ListComp elt [⟨tgt, iter, ifs, 0⟩] scope pos) spos) (sAsg (eLc nw (own.map (·.2)) fi tg ft fe) (gN i)) :=
  PS.imp (ps_setLc hc hN hy hyl hsw hi ok hg ht he hs) fun D σ H ⟨env, ρ, F, s, g, l, k⟩ => lc_of (W := W) n hsub ⟨env, ρ, F, s, g, l, FPo.bind k l fun d s1 ρ1 F1 H1 v e1 l1 g1 r1 k1 => k1 ρ1 F1 H1 _ LE.refl g1 ((l.mono l1).set r1 i)⟩
def tYes : Tx := fun _ s => .ok true s
theorem PTs.imp {X : Cx} {e : List Expr} {t t' : TT} (h : PTs X e t) (k : ∀ σ H Q, t' σ H Q → t σ H Q) : PTs X e t' := ⟨fun pins s σ H Q I q => h.run pins s σ H Q I (k σ H Q q)⟩
theorem tts_nil : PTs X [] (tT (wd J X) W Pd.tYes) := PTs.imp pts_nil fun σ H Q ⟨env, ρ, F, s, g, l, k⟩ => k ρ F H true LE.refl g rfl
theorem tts_one (h : TSo J X W c ft) : PTs X [c] (tT (wd J X) W ft) := pts_one h
end
end Pd
namespace Pd
open PySem L2
/-- a list that is tracked -/
def trkL (s : Sto) : Dt → Option (List Dt)
  | .lst l => some l
  | .obj i => match s[i]? with
    | some (.lst l) => some l
    | _ => none
  | _ => none
/-- a list of the store -/
def lstAt (s : Sto) : Dt → Option (Nat × List Dt)
  | .obj i => match s[i]? with
    | some (.lst l) => some (i, l)
    | _ => none
  | _ => none
section
variable {Γ : Wd} {ρ : List Addr} {F H : Hp} {s : Sto}
theorem G.trk (g : G Γ ρ F s H) {d : Dt} {v : V} {l : List Dt} (r : Den Γ ρ F d v) (h : trkL s d = some l) : ∃ a xs, v = .ref a ∧ H a = some (.lst xs) ∧ Dens Γ ρ F l xs ∧ l.length ≤ sizeLine := by
  cases d with
  | lst l' =>
    simp only [Den] at r
    simp only [trkL, Option.some.injEq] at h
    subst h
    obtain ⟨z, a, xs, e, q, t⟩ := r
    exact ⟨a, xs, e, g.sub _ _ q, t, z⟩
  | obj i =>
    simp only [Den] at r
    obtain ⟨a, e, q⟩ := r
    simp only [trkL] at h
    split at h
    · rename_i l' hs
      cases h
      obtain ⟨z, xs, ha, t⟩ := g.at_ i a _ q hs
      exact ⟨a, xs, e, ha, t, z⟩
    · cases h
  | _ => simp [trkL] at h
theorem G.lat (g : G Γ ρ F s H) {d : Dt} {v : V} {i : Nat} {l : List Dt} (r : Den Γ ρ F d v) (h : lstAt s d = some (i, l)) : ∃ a xs, v = .ref a ∧ ρ[i]? = some a ∧ H a = some (.lst xs) ∧ Dens Γ ρ F l xs ∧ l.length ≤ sizeLine := by
  cases d with
  | obj j =>
    simp only [Den] at r
    obtain ⟨a, e, q⟩ := r
    simp only [lstAt] at h
    split at h
    · rename_i l' hs
      cases h
      obtain ⟨z, xs, ha, t⟩ := g.at_ _ a _ q hs
      exact ⟨a, xs, e, q, ha, t, z⟩
    · cases h
  | _ => simp [lstAt] at h
/-- a list of the store is written -/
theorem G.setL (g : G Γ ρ F s H) {i : Nat} {a : Addr} {l : List Dt} {xs : List V} {ys : List V} (hi : ρ[i]? = some a) (q : H a = some (.lst ys)) (t : Dens Γ ρ F l xs) (z : l.length ≤ sizeLine) : G Γ ρ F (s.set i (.lst l)) (upd H a (.lst xs)) := g.put hi (fun od u e => by rw [q] at e; cases e) ⟨z, xs, upd_same, t⟩
end
/-! ### a + b -/
def dAdd (nw : List Dt → Sto → Out Dt) (x y : Dt) (s : Sto) : Out Dt := match x with
  | .int i => match y with
    | .int j => .ok (.int (i + j)) s
    | _ => .bad
  | .str i => match y with
    | .str j => if i.length + j.length ≤ 1000000 then .ok (.str (i ++ j)) s else .bad
    | _ => .bad
  | .tup l => match y with
    | .tup m => if l.length + m.length ≤ sizeLine then .ok (.tup (l ++ m)) s else .bad
    | _ => .bad
  | x => match trkL s x with
    | some l => match trkL s y with
      | some m => if l.length + m.length ≤ sizeLine then nw (l ++ m) s else .bad
      | none => .bad
    | none => .bad
theorem sok_app {i j : Str} (hi : sok i = true) (hj : sok j = true) (h : i.length + j.length ≤ 1000000) : sok (i ++ j) = true := by
  have e : (i ++ j).cps.toList = i.cps.toList ++ j.cps.toList := TL.tl_append i j
  refine sok_of (fun c hc => ?_) ?_
  · rw [e] at hc
    rcases List.mem_append.mp hc with hc | hc
    · exact sok_mem hi hc
    · exact sok_mem hj hc
  · have : (i ++ j).length = i.length + j.length := by
      show (i ++ j).cps.size = i.cps.size + j.cps.size
      rw [← Array.length_toList, e, List.length_append, Array.length_toList, Array.length_toList]
    omega
def rAddAll (K : PySem.W.Frag) : R2 := fun x y H Q => rI0 (fun i j => .int (i + j)) x y H Q ∨ ((∃ i j, x = .str i ∧ y = .str j ∧ i.length + j.length ≤ sizeLine ∧ Q (.str (i ++ j)) H) ∨ (rCatA K x y H Q ∨ rCat x y H Q))
theorem dAdd_ok {Γ : Wd} {nw : List Dt → Sto → Out Dt} (n : IsNw nw) : OpS Γ (rAddAll Γ.K) (dAdd nw) := by
  intro ρ F s H x y dx dy Q E g rx ry k
  have gen : ∀ l, trkL s dx = some l → (∀ m, trkL s dy = some m → l.length + m.length ≤ sizeLine → EPo Γ ρ F H Q E (nw (l ++ m) s) → rCat x y H Q) := fun l hl m hm hz k => by
    obtain ⟨a, xs, e1, q1, t1, _⟩ := g.trk rx hl
    obtain ⟨b, ys, e2, q2, t2, _⟩ := g.trk ry hm
    exact ⟨a, b, xs, ys, e1, e2, q1, q2, by rw [← t1.length, ← t2.length]; exact hz, fun p hp => new_lst n g (Dens.append t1 t2) (by rw [List.length_append]; exact hz) hp k⟩
  cases dx with
  | int i =>
    cases dy with
    | int j =>
      simp only [Den] at rx ry
      exact .inl ⟨i, j, rx, ry, k ρ F H _ LE.refl g (by simp only [Den])⟩
    | _ => exact False.elim k
  | str i =>
    cases dy with
    | str j =>
      simp only [Den] at rx ry
      simp only [dAdd] at k
      split at k
      · rename_i h
        refine .inr (.inl ⟨i, j, rx.1, ry.1, by rw [sizeLine_eq]; omega, k ρ F H _ LE.refl g ?_⟩)
        simp only [Den]
        exact ⟨trivial, sok_app rx.2 ry.2 h⟩
      · exact False.elim k
    | _ => exact False.elim k
  | tup l =>
    cases dy with
    | tup m =>
      simp only [dAdd] at k
      split at k
      · rename_i h
        obtain ⟨a, xs, e1, q1, t1, z1⟩ := g.sqT rx (l := l) rfl
        obtain ⟨b, ys, e2, q2, t2, z2⟩ := g.sqT ry (l := m) rfl
        refine .inr (.inr (.inl ⟨a, b, xs, ys, e1, e2, q1, q2, by rw [← t1.length, ← t2.length]; exact h, fun hx => ?_, fun hx hy => ?_, fun hx hy p hp => ?_⟩))
        · have el : l = [] := by
            have := t1.length
            rw [hx] at this
            exact List.length_eq_zero_iff.mp (by simpa using this)
          subst el
          rw [List.nil_append] at k
          have := k ρ F H y LE.refl g ry
          rw [e2] at this
          exact this
        · have em : m = [] := by
            have := t2.length
            rw [hy] at this
            exact List.length_eq_zero_iff.mp (by simpa using this)
          subst em
          rw [List.append_nil] at k
          have := k ρ F H x LE.refl g rx
          rw [e1] at this
          exact this
        · exact new_tup g (Dens.append t1 t2) (by rw [List.length_append]; exact h) hp k
      · exact False.elim k
    | _ => exact False.elim k
  | lst l =>
    simp only [dAdd, trkL] at k
    cases e : trkL s dy with
    | none => simp only [trkL] at e; rw [e] at k; exact False.elim k
    | some m =>
      simp only [trkL] at e
      rw [e] at k
      simp only [] at k
      split at k
      · rename_i h
        exact .inr (.inr (.inr (gen l rfl m e h k)))
      · exact False.elim k
  | obj i =>
    simp only [dAdd] at k
    cases e1 : trkL s (.obj i) with
    | none => rw [e1] at k; exact False.elim k
    | some l =>
      rw [e1] at k
      simp only [] at k
      cases e : trkL s dy with
      | none => rw [e] at k; exact False.elim k
      | some m =>
        rw [e] at k
        simp only [] at k
        split at k
        · rename_i h
          exact .inr (.inr (.inr (gen l e1 m e h k)))
        · exact False.elim k
  | _ => exact False.elim k
section
variable {J : Cn} {X : Cx} {W : WX} {a b c e e2 o tgt iter elt : Expr} {es ifs : List Expr} {fa fb fc fe fo : Ex} {fs : List Ex} {ft fu : Tx} {pos p apos cpos : Pos} {st : Stmt} {rest : List Stmt} {f1 f2 : Sx}
theorem es_add {nw : List Dt → Sto → Out Dt} (n : IsNw nw) (ha : ES J X W a fa) (hb : ES J X W b fb) : ES J X W (.BinOp a .Add b pos) (eOp (dAdd nw) fa fb) :=
  es_op (OpR.or op_add (OpR.or op_add_str (OpR.or op_catA op_cat))) (dAdd_ok n) ha hb
/-! ### methods of built-ins -/
def isLst (s : Sto) (d : Dt) : Bool := (asL s d).isSome
def isStr (_ : Sto) (d : Dt) : Bool := match d with
  | .str _ => true
  | _ => false
def TyS (Γ : Wd) (T : String) (ty : Sto → Dt → Bool) : Prop := ∀ ρ F s H x d, G Γ ρ F s H → Den Γ ρ F d x → ty s d = true → tyV Γ.K T x H
theorem ty_lst {Γ : Wd} : TyS Γ "list" isLst := by
  intro ρ F s H x d g r h
  unfold isLst at h
  obtain ⟨l, e⟩ := Option.isSome_iff_exists.mp h
  obtain ⟨a, xs, e1, q, _⟩ := g.sqL r e
  subst e1
  exact .inl ⟨rfl, xs, q⟩
theorem ty_str {Γ : Wd} : TyS Γ "str" isStr := by
  intro ρ F s H x d g r h
  cases d with
  | str z => simp only [Den] at r; obtain ⟨r, _⟩ := r; subst r; exact rfl
  | _ => exact Bool.noConfusion h
def M0S (Γ : Wd) (r : V → List V → Hp → VK → Prop) (op : Dt → Sto → Out Dt) : Prop := ∀ ρ F s H x dx Q E, G Γ ρ F s H → Den Γ ρ F dx x → EPo Γ ρ F H Q E (op dx s) → r x [] H Q
def M1S (Γ : Wd) (r : V → List V → Hp → VK → Prop) (op : Dt → Dt → Sto → Out Dt) : Prop := ∀ ρ F s H x y dx dy Q E, G Γ ρ F s H → Den Γ ρ F dx x → Den Γ ρ F dy y → EPo Γ ρ F H Q E (op dx dy s) → r x [y] H Q
/-- a method of a built-in, with one argument -/
def Bm1 (J : Cn) (X : Cx) (T : String) (name : Str) (ty : Sto → Dt → Bool) (op : Dt → Dt → Sto → Out Dt) : Prop := ∃ id r, PlainAttrs T ∧ Slot T name id ∧ typeOf (.builtin id) = pure (.type "method_descriptor") ∧ MtR X id r ∧ TyS (wd J X) T ty ∧ M1S (wd J X) r op
def eBm1 (ty : Sto → Dt → Bool) (op : Dt → Dt → Sto → Out Dt) (fo fe : Ex) : Ex := fun env => bnd (fo env) fun x s => if ty s x = true then bnd (fe env) (fun y => op x y) s else .bad
theorem es_bm1 {T : String} {name : Str} {ty : Sto → Dt → Bool} {op : Dt → Dt → Sto → Out Dt} (B : Bm1 J X T name ty op) (ho : ES J X W o fo) (he : ES J X W e fe)
    (hs : starEach (e :: []) X.env = (false, eval e X.env) :: starEach [] X.env := by rfl) (hbase : attributeBase o name X.env (eval o X.env) = eval o X.env := by rfl)
    (hfew : ((backTo cpos (starEach [e] X.env)).all (fun x => !x.1) && (backToKw cpos (keywordEach [] X.env)).all (fun x => x.1.isSome)
      && decide (([e] : List Expr).length + ([] : List Keyword).length + (if ([] : List Keyword).isEmpty then 0 else 1) < 30)) = true := by rfl)
    (hline : (apos.endLine == cpos.line) = true := by rfl) : ES J X W (.Call (.Attribute o name apos) [e] [] cpos) (eBm1 ty op fo fe) := by
  obtain ⟨id, r, pa, slot, hty, hm, tyS, opS⟩ := B
  exact PE.imp (pe_bm pa slot hty hm ho (pa_cons he pa_nil hs) hbase hfew hline hs rfl) fun σ H Q ⟨env, ρ, F, s, g, l, k⟩ => ⟨env, ρ, F, s, g, l, Po.bind k fun x s1 ρ1 F1 H1 v e1 l1 g1 r1 k1 => by
    split at k1
    · rename_i ht
      exact ⟨tyS ρ1 F1 s1 H1 v x g1 r1 ht, env, ρ1, F1, s1, g1, l.mono l1, Po.bind k1 fun y s2 ρ2 F2 H2 u e2 l2 g2 r2 k2 => opS ρ2 F2 s2 H2 v u x y Q _ g2 (Den.mono l2 _ _ r1) r2 k2⟩
    · exact False.elim k1⟩
def dApp (x y : Dt) (s : Sto) : Out Dt := match lstAt s x with
  | some (i, l) => if l.length < sizeLine then .ok .non (s.set i (.lst (l ++ [y]))) else .bad
  | none => .bad
theorem m_append : Bm1 J X "list" "append" isLst dApp := ⟨_, _, PySem.F.plainAttrs_list, PySem.F.slot_list_append, PySem.F.type_list_append, mt_append, ty_lst, fun ρ F s H x y dx dy Q E g rx ry k => by
  unfold dApp at k
  split at k
  · rename_i i l hl
    split at k
    · rename_i hz
      obtain ⟨a, xs, e1, hi, q, t, _⟩ := g.lat rx hl
      refine ⟨a, xs, y, e1, rfl, q, by rw [← t.length]; exact hz, k ρ F _ _ (LE.put (List.mem_of_getElem? hi)) (g.setL hi q (Dens.append t (Dens.one ry)) (by rw [List.length_append]; exact hz)) (by simp only [Den])⟩
    · exact False.elim k
  · exact False.elim k⟩
def dExt (x y : Dt) (s : Sto) : Out Dt := match lstAt s x with
  | some (i, l) => match trkL s y with
    | some m => if l.length + m.length ≤ sizeLine then .ok .non (s.set i (.lst (l ++ m))) else .bad
    | none => .bad
  | none => .bad
theorem m_extend : Bm1 J X "list" "extend" isLst dExt := ⟨_, _, PySem.F.plainAttrs_list, PySem.F.slot_list_extend, PySem.F.type_list_extend, mt_extend, ty_lst, fun ρ F s H x y dx dy Q E g rx ry k => by
  unfold dExt at k
  split at k
  · rename_i i l hl
    split at k
    · rename_i m hm
      split at k
      · rename_i hz
        obtain ⟨a, xs, e1, hi, q, t, _⟩ := g.lat rx hl
        obtain ⟨b, ys, e2, q2, t2, _⟩ := g.trk ry hm
        refine ⟨a, b, xs, ys, e1, by rw [e2], q, q2, by rw [← t.length, ← t2.length]; exact hz, k ρ F _ _ (LE.put (List.mem_of_getElem? hi)) (g.setL hi q (Dens.append t t2) (by rw [List.length_append]; exact hz)) (by simp only [Den])⟩
      · exact False.elim k
    · exact False.elim k
  · exact False.elim k⟩
/-- xs.pop(k) -/
def dPopAt (x y : Dt) (s : Sto) : Out Dt := match y with
  | .int k => match lstAt s x with
    | some (i, l) => match ixN l.length k with
      | some j => match l[j]? with
        | some d => .ok d (s.set i (.lst (l.eraseIdx j)))
        | none => .bad
      | none => .bad
    | none => .bad
  | _ => .bad
theorem m_popAt : Bm1 J X "list" "pop" isLst dPopAt := ⟨_, _, PySem.F.plainAttrs_list, PySem.F.slot_list_pop, PySem.F.type_list_pop, mt_popAt, ty_lst, fun ρ F s H x y dx dy Q E g rx ry k => by
  cases dy with
  | int n =>
    simp only [Den] at ry
    simp only [dPopAt] at k
    split at k
    · rename_i i l hl
      split at k
      · rename_i j hj
        split at k
        · rename_i d hd
          obtain ⟨a, xs, e1, hi, q, t, z⟩ := g.lat rx hl
          obtain ⟨v, hv, rv⟩ := t.get hd
          obtain ⟨s1, s2, s3, s4⟩ := ixN_seq hj
          have hlen : (l.length : Int) ≤ 16777216 := by rw [sizeLine_eq] at z; omega
          refine ⟨a, xs, n, j, v, e1, by rw [ry], q, by omega, by omega, by rw [← t.length]; exact s1, hv, k ρ F _ _ (LE.put (List.mem_of_getElem? hi)) (g.setL hi q (t.eraseIdx j) (Nat.le_trans (len_erase _ _) z)) rv⟩
        · exact False.elim k
      · exact False.elim k
    · exact False.elim k
  | _ => exact False.elim k⟩
/-- ints alone -/
def asI : List Dt → Option (List Int)
  | [] => some []
  | .int b :: r => (asI r).map (b :: ·)
  | _ => none
theorem asI_map : ∀ {l : List Dt} {ns : List Int}, asI l = some ns → l = ns.map Dt.int
  | [], ns, h => by simp only [asI, Option.some.injEq] at h; subst h; rfl
  | d :: l, ns, h => by
    cases d with
    | int i =>
      simp only [asI, Option.map_eq_some_iff] at h
      obtain ⟨r, e1, e2⟩ := h
      subst e2
      rw [asI_map e1]; rfl
    | _ => simp [asI] at h
theorem Dens.ints {Γ : Wd} {ρ : List Addr} {F : Hp} : ∀ {ns : List Int} {xs : List V}, Dens Γ ρ F (ns.map Dt.int) xs → xs = ns.map V.int
  | [], xs, h => by simp only [List.map_nil, Dens] at h; exact h
  | n :: ns, xs, h => by
    simp only [List.map_cons, Dens] at h
    obtain ⟨v, r, e1, q, t⟩ := h
    simp only [Den] at q
    rw [e1, q, Dens.ints t]; rfl
theorem densI {Γ : Wd} {ρ : List Addr} {F : Hp} : ∀ (ns : List Int), Dens Γ ρ F (ns.map Dt.int) (ns.map V.int)
  | [] => by simp only [List.map_nil, Dens]
  | n :: ns => by
    simp only [List.map_cons, Dens]
    exact ⟨_, _, rfl, by simp only [Den], densI ns⟩
/-- xs.remove(n), whole numbers, it is there -/
def dRem (x y : Dt) (s : Sto) : Out Dt := match y with
  | .int k => match lstAt s x with
    | some (i, l) => match asI l with
      | some ns => if k ∈ ns then .ok .non (s.set i (.lst ((ns.erase k).map .int))) else .bad
      | none => .bad
    | none => .bad
  | _ => .bad
theorem erase_ix {ns : List Int} {k : Int} (h : k ∈ ns) : ∃ j : Nat, ns[j]? = some k ∧ (∀ m : Nat, m < j → ns[m]? ≠ some k) ∧ ns.eraseIdx j = ns.erase k := by
  induction ns with
  | nil => simp at h
  | cons a r ih =>
    by_cases e : a = k
    · subst e
      exact ⟨0, rfl, fun m hm => absurd hm (Nat.not_lt_zero _), by simp⟩
    · have hr : k ∈ r := by
        rcases List.mem_cons.mp h with h | h
        · exact absurd h.symm e
        · exact h
      obtain ⟨j, h1, h2, h3⟩ := ih hr
      refine ⟨j + 1, by simpa using h1, fun m hm => ?_, ?_⟩
      · cases m with
        | zero => simpa using e
        | succ m => simpa using h2 m (by omega)
      · rw [List.eraseIdx_cons_succ, h3, List.erase_cons, if_neg (by simpa using e)]
theorem m_remove : Bm1 J X "list" "remove" isLst dRem := ⟨_, _, PySem.F.plainAttrs_list, PySem.F.slot_list_remove, PySem.F.type_list_remove, mt_remove, ty_lst, fun ρ F s H x y dx dy Q E g rx ry k => by
  cases dy with
  | int n =>
    simp only [Den] at ry
    simp only [dRem] at k
    split at k
    · rename_i i l hl
      split at k
      · rename_i ns hn
        split at k
        · rename_i hm
          obtain ⟨a, xs, e1, hi, q, t, z⟩ := g.lat rx hl
          have el := asI_map hn
          subst el
          have ex := t.ints
          subst ex
          obtain ⟨j, h1, h2, h3⟩ := erase_ix hm
          refine ⟨a, ns, n, j, e1, by rw [ry], q, h1, h2, ?_⟩
          rw [h3]
          exact k ρ F _ _ (LE.put (List.mem_of_getElem? hi)) (g.setL hi q (densI _) (by
            rw [List.length_map] at z ⊢
            exact Nat.le_trans (List.length_erase_le) z)) (by simp only [Den])
        · exact False.elim k
      · exact False.elim k
    · exact False.elim k
  | _ => exact False.elim k⟩
/-! ### isinstance(x, T), T a built-in class -/
def tyN (s : Sto) : Dt → Option String
  | .non => some "NoneType"
  | .bl _ => some "bool"
  | .int _ => some "int"
  | .str _ => some "str"
  | .tup _ => some "tuple"
  | .lst _ => some "list"
  | .lsk _ => some "list"
  | .obj i => match s[i]? with
    | some (.lst _) => some "list"
    | some (.dic _) => some "dict"
    | some (.dit _) => some "dict"
    | some (.dicL _) => some "dict"
    | _ => none
  | .exc _ => none
theorem G.ty {Γ : Wd} {ρ : List Addr} {F H : Hp} {s : Sto} (g : G Γ ρ F s H) {d : Dt} {v : V} {T : String} (r : Den Γ ρ F d v) (h : tyN s d = some T) : TyX Γ.K H v (.type T) := by
  cases d with
  | non => simp only [Den] at r; simp only [tyN, Option.some.injEq] at h; subst r; subst h; exact .base .non
  | bl b => simp only [Den] at r; simp only [tyN, Option.some.injEq] at h; subst r; subst h; exact .base (.bl b)
  | int i => simp only [Den] at r; simp only [tyN, Option.some.injEq] at h; subst r; subst h; exact .base (.int i)
  | str x => simp only [Den] at r; simp only [tyN, Option.some.injEq] at h; obtain ⟨r, _⟩ := r; subst r; subst h; exact .base (.str x)
  | tup l =>
    simp only [Den] at r; simp only [tyN, Option.some.injEq] at h
    obtain ⟨z, a, xs, e, q, t⟩ := r
    subst e; subst h
    exact .base (.tup (g.sub _ _ q))
  | lst l =>
    simp only [Den] at r; simp only [tyN, Option.some.injEq] at h
    obtain ⟨z, a, xs, e, q, t⟩ := r
    subst e; subst h
    exact .base (.lst (g.sub _ _ q))
  | lsk l =>
    simp only [Den] at r; simp only [tyN, Option.some.injEq] at h
    obtain ⟨z, a, xs, e, q, t⟩ := r
    subst e; subst h
    rcases sqL_sub g.sub q with (q | ⟨o, q⟩) | ⟨o, its, n, hk, hc, _⟩
    · exact .base (.lst q)
    · exact .base (.frz q)
    · exact .kList hk hc
  | obj i =>
    simp only [Den] at r
    obtain ⟨a, e, q⟩ := r
    subst e
    simp only [tyN] at h
    split at h
    · rename_i l hs
      cases h
      obtain ⟨z, xs, hx, t⟩ := g.at_ i a _ q hs
      exact .base (.lst hx)
    · rename_i l hs
      cases h
      obtain ⟨z, xs, hx, t⟩ := g.at_ i a _ q hs
      exact .base (.dK hx)
    · rename_i l hs
      cases h
      obtain ⟨z, xs, hx, t⟩ := g.at_ i a _ q hs
      exact .base (.dT hx)
    · rename_i l hs
      cases h
      obtain ⟨z, od, xs, hx, t⟩ := g.at_ i a _ q hs
      exact .fDict hx.1
    · cases h
  | exc c => simp [tyN] at h
def dIsi (T : String) (d : Dt) (s : Sto) : Out Dt := ofO s ((tyN s d).map fun t => .bl (t == T || (t == "bool" && T == "int")))
/-- of these classes it is known whose heirs they are -/
def kitAll (T : String) : Bool := ["NoneType", "bool", "int", "str", "tuple", "list", "dict"].all fun t => kitB t T == some (t == T || (t == "bool" && T == "int"))
theorem tyN_in {s : Sto} {d : Dt} {t : String} (h : tyN s d = some t) : t ∈ ["NoneType", "bool", "int", "str", "tuple", "list", "dict"] := by
  cases d with
  | obj i =>
    simp only [tyN] at h
    split at h <;> first | (cases h; decide) | cases h
  | exc c => simp [tyN] at h
  | _ => simp only [tyN, Option.some.injEq] at h; subst h; decide
theorem es_isi {T : Str} {n : String} {p2 : Pos} (hk : kitAll n = true) (hg : Gl X "isinstance") (hm : X.mg "isinstance" = none) (hgT : Gl X T) (hmT : X.mg T = none) (hv : bootBuiltins T = some (.type n)) (ha : ES J X W e fe)
    (hn : T ≠ "__name__" := by decide) (hd : (T == ("__debug__" : Str)) = false := by decide)
    (he : starEach [e, .Name T p2] X.env = [(false, eval e X.env), (false, eval (.Name T p2) X.env)] := by rfl) : ES J X W (.Call (.Name "isinstance" p) [e, .Name T p2] [] pos) (eUn (dIsi n) fe) :=
  PE.imp (pe_callB call_isi hg hm (by decide +kernel) (pa_cons ha (pa_cons (pe_bltn (v := .ty n) hgT hmT hv rfl hn hd) pa_nil rfl) (by exact he)) (by decide) (by decide) (by exact he) rfl) fun σ H Q ⟨env, ρ, F, s, g, l, k⟩ => ⟨env, ρ, F, s, g, l, Po.bind k fun x s1 ρ1 F1 H1 v e1 l1 g1 r1 k1 => by
    obtain ⟨d, e3, k1⟩ := Po.ofO k1
    obtain ⟨t, e4, e5⟩ := Option.map_eq_some_iff.mp e3
    subst e5
    have hq := (List.all_eq_true.mp hk) t (tyN_in e4)
    refine ⟨v, .ty n, .type t, .type n, _, rfl, .ty n, g1.ty r1 e4, kit_ty (by simpa using hq), k1 ρ1 F1 H1 _ LE.refl g1 (by simp only [Den])⟩⟩
/-! ### raise X('..') -/
def sRaise (c : Nat) : Sx := fun env s => .exc c env s
theorem ss_raise {z : Bool} {c : Nat} {x m : Str} {C : Addr} {bmB : List Value} {B newId initId : String} {j : Nat} {p p2 pos pos' : Pos} (hJ : (J c).1 = x) (hc : X.calm = true) (tk : Tks z X W) (Fx : ExcBaseFacts B newId initId bmB) (q : PySem.W.excIn X.K C bmB newId = true) (gC : X.mg x = some (.ref C)) (kC : PySem.W.keepIn X.K (.ref C) = true) (r : Raises X (.ref C)) (hg : Gl X x)
    (hdb : (x == ("__debug__" : Str)) = false := by decide) : SS J X W (.Raise (some (.Call (.Name x p) [.Constant (.str m) j p2] [] pos)) none pos') (sRaise c) := by
  have k : ∀ D σ H, tS (wd J X) W (sRaise c) D σ H → W (.ref C) none σ H := fun D σ H ⟨env, ρ, F, s, g, l, k⟩ => k ρ F H σ C LE.refl g l (by show X.mg (J c).1 = _; rw [hJ]; exact gC)
  match z, tk with
  | true, tk => exact PS.imp (L2N.ps_raise hc tk (L2N.pmk_own Fx q gC kC r hg hdb)) k
  | false, tk => exact PS.imp (L2.ps_raise hc tk (L2.pmk_own Fx q gC kC r hg hdb)) k
end
end Pd
namespace Pd
open PySem L2
/-! ### a caught error that is kept -/
theorem exH_ok {P : Program} {w : World} {H : Hp} {h : Heap} {C a : Addr} {oe : Obj} {vs : Array Value} (e : h.get? a = some oe) (z : Zc (.ref C) none oe) (d : oe.data = .fields vs) : ObjOk P w H h a (ExH C a) :=
  ⟨⟨oe, vs, e, z, d⟩, ⟨oe, e⟩, fun _ _ ⟨o, v, q, r⟩ k => ⟨o, v, k o q, r⟩⟩
/-- an object of the body's own time comes to be tracked -/
theorem Inv.track {X : Cx} {pins : List (Addr × Obj)} {σ : St} {H : Hp} {s : Shared} {C a : Addr} {oe : Obj} {vs : Array Value} (I : Inv X pins σ H s) (he : s.heap.get? a = some oe) (hz : Zc (.ref C) none oe) (hd : oe.data = .fields vs) (na : H a = none)
    (n0 : X.s_0.heap.get? a = none) (nL : a ≠ X.env.locals) (np : ∀ p ∈ X.pn ++ pins, p.1 ≠ a) : Inv X pins σ (upd H a (ExH C a)) s where
  ok := I.ok
  os := I.os
  bare := I.bare
  base :=
    { keep := I.base.keep
      slot := I.base.slot
      free := fun b o q n x => by rw [upd_ne (fun z => by rw [z, n0] at q; cases q)]; exact I.base.free b o q n x
      there := I.base.there
      tups := fun b xs q => by have z := I.base.tups b xs q; rw [upd_ne (ne_of_none z na)]; exact z
      frzs := fun b o u q => by have z := I.base.frzs b o u q; rw [upd_ne (ne_of_none z na)]; exact z
      tbls := fun b ps q => by obtain ⟨m, z⟩ := I.base.tbls b ps q; exact ⟨m, by rw [upd_ne (ne_of_none z na)]; exact z⟩ }
  loc := I.loc
  cell := I.cell
  free := by rw [upd_ne (Ne.symm nL)]; exact I.free
  freeC := fun x c h => by
    obtain ⟨v, o, q1, q2⟩ := I.cell x c h
    rw [upd_ne (fun z => by
      rw [z, he] at q1
      cases q1
      rw [hd] at q2
      cases q2)]
    exact I.freeC x c h
  pin := fun p h => by
    obtain ⟨h1, h2, h3⟩ := I.pin p h
    exact ⟨h1, by rw [upd_ne (np p h)]; exact h2, h3⟩
  hok := fun b o q => by
    by_cases e : b = a
    · subst e
      rw [upd_same] at q
      cases q
      exact exH_ok he hz hd
    · rw [upd_ne e] at q
      exact (I.hok b o q).stay (fun _ _ _ z => z) (fun c z => by rw [upd_ne (ne_of_none z na)]; exact z) fun c xs z => by rw [upd_ne (ne_of_none z na)]; exact z
  len := I.len
/-- what is wanted of an error that a clause takes and whose object stays behind -/
def wKept (K : PySem.W.Frag) (c : Value) (i : Nat) (ts : Addr → Value → Option Addr → TS) (D : Ends) : WX := fun cls d σ H =>
  PySem.W.exmOne K cls c = some true ∧ ∃ C, cls = .ref C ∧ d = none ∧ ∀ a, H a = none → ts a cls d { nx := fun σ' H' => H' a = none → D.nx (σ'.set i none) (upd H' a (ExH C a)), rt := fun _ _ => False, bk := fun _ _ => False, ct := fun _ _ => False } (σ.set i (some (.ref a))) H
section
variable {X : Cx} {x n : Str} {c : Value} {i : Nat} {body suite : List Stmt} {b0 : Stmt} {np pos pos' : Pos} {tb : WX → TS} {ts : Addr → Value → Option Addr → TS}
/-- from the catch on -/
theorem catch_kept (hs : X.stack = X.env :: X.outer) (hf : X.env.frame = some X.env.locals) (hN : X.N.Nodup) (hi : X.N[i]? = some n) (hln : X.env.kindOf n = some .local) (hc : Names X x c) (hex : X.ex = [])
    (hsu : ∀ (a : Addr) (oe : Obj) (cls : Value) (d : Option Addr) (pn : List (Addr × Obj)), Zc cls d oe → (∃ vs, oe.data = .fields vs) → PSs (X.suite a ((a, oe) :: pn)) (b0 :: suite) (ts a cls d))
    {pins : List (Addr × Obj)} {D : Ends} {u : Value} {s' : Shared} {xe : Value → Shared → Prop} (ok : X.Ok) (q : L2.XE (X.tr (X.pn ++ pins) xe) (wKept X.K c i ts D) u s') :
    wpAny (model X.prog X.w) X.A (noteFrame u X.env) (fun _ s2 => wpAny (model X.prog X.w) X.A (setFlight u none) (fun _ s3 =>
      wpAny (model X.prog X.w) X.A (handleBy u X.env [.ExceptHandler (some (.Name x np)) (some n) (b0 :: suite) pos']) (SP X pins D) X.xe s3) X.xe s2) X.xe s' := by
  obtain ⟨a, B, sI, pins', σ1, H1, cls, d, eu, I', nb, up, sky, na, os, ag, hm, C, ec, ed, hts⟩ := q
  subst eu; subst ec; subst ed
  have I1 : Inv X pins σ1 H1 sI := I'.ofTry ok
  have hfr : X.A.frames = some (X.env :: X.outer) := by rw [ok.frames, hs]
  rw [show (X.tr (X.pn ++ pins) xe).stack = X.env :: X.outer from hs] at sky
  refine Sky.land Zc.steady hfr hf sky fun h3 fl3 up3 => ?_
  have I3 : Inv X pins σ1 H1 { s' with heap := h3 } := I1.landed nb fl3.1 (up.trans up3) os ag
  obtain ⟨oe3, vs3, he3, hz3, hd3⟩ := fl3.there
  have nfr : a ∉ frs (X.env :: X.outer) := fun z => by
    obtain ⟨_, o, e1, e2⟩ := (fl3.2.2.1).mem z
    rw [he3] at e1
    cases e1
    exact e2 _ hd3
  have nL : a ≠ X.env.locals := fun z => nfr (List.mem_filterMap.mpr ⟨X.env, List.mem_cons_self, by rw [hf, z]⟩)
  have nF : a ∉ X.fs := fun z => by
    obtain ⟨e, h1, h2⟩ := List.mem_filterMap.mp z
    exact nfr (List.mem_filterMap.mpr ⟨e, List.mem_cons_of_mem _ h1, h2⟩)
  have nB : B.get? a = none := fl3.2.1
  have nst : a ∉ frs X.stack := by rw [hs]; exact nfr
  -- it was made behind the entry, and is none of the pins
  have n0 : X.s_0.heap.get? a = none := by
    cases e : X.s_0.heap.get? a with
    | none => rfl
    | some o =>
      obtain ⟨o', e'⟩ := I1.base.there a o e (by rw [hex]; exact List.not_mem_nil)
      rw [nb a o' e' nst] at nB
      cases nB
  have npin : ∀ p ∈ X.pn ++ pins, p.1 ≠ a := fun p hp z => by
    obtain ⟨e1, _, e2, e3, _⟩ := I1.pin p hp
    rw [z] at e1
    have := nb a p.2 e1 nst
    rw [nB] at this
    cases this
  have S3 := I3.suite he3 hd3 na nL nF
  refine wpAny_handleBy_cons (codeAny_handlers_test ?_) (by intro q; cases q)
  have looks : PySem.W.Looks (model X.prog X.w) h3 (typeOf (.ref a)) (.ref C) := fun A Q E s k q => wpAny_typeOf_ref (k _ _ he3) (by rw [hz3.1]; exact q)
  have hit := PySem.W.exm_one (M := model X.prog X.w) I3.kIn looks hm
  have cond : ∀ {Q : Value → Shared → Prop} {E : Value → Shared → Prop}, Q c { s' with heap := h3 } → wpAny (model X.prog X.w) (X.A.mark (some (.ref a))) (eval (.Name x np) X.env) Q E { s' with heap := h3 } := fun {Q E} q => by
    obtain ⟨g1, g2, g3⟩ := hc
    rcases g3 with g3 | ⟨g3, g4, g5⟩
    · exact ld_glob (X := X.suite a ((a, oe3) :: (X.pn ++ pins))) S3 g1 g3 q g2
    · exact ld_blt (X := X.suite a ((a, oe3) :: (X.pn ++ pins))) S3 g1 g3 g4 q g5 g2
  refine cond (hit.here (codeAny_handlers_suite_as (HandSPX.lands_againZ fl3 fun h4 fl4 up4 => ?_)))
  have I4 : Inv X pins σ1 H1 { s' with heap := h4 } := I1.landed nb fl4.1 ((up.trans up3).trans up4) os ag
  obtain ⟨oe4, vs4, he4, hz4, hd4⟩ := fl4.there
  have S4 := I4.suite he4 hd4 na nL nF
  refine store_ok (X := X.suite a ((a, oe4) :: (X.pn ++ pins))) (v := .ref a) S4 hN hi (.inl hln) rfl (fun s5 S5 => ?_) (.inr hln)
  refine wpAny_mono ((hsu a oe4 (.ref C) none (X.pn ++ pins) hz4 ⟨_, hd4⟩).run [] s5 _ H1 _ S5 (hts a na)) (fun f s6 r => ?_) (fun _ _ z => False.elim z)
  cases f with
  | next =>
    obtain ⟨σ6, H6, S6, q6⟩ := r
    obtain ⟨p1, p2, _⟩ := S6.pin (a, oe4) (List.mem_append_left _ List.mem_cons_self)
    have I6 : Inv X pins σ6 H6 s6 := S6.unsuite ok
    exact gone_ok (Inv.track I6 p1 hz4 hd4 p2 n0 nL npin) hN hi hln fun s7 I7 => ⟨_, _, I7, q6 p2⟩
  | brk => obtain ⟨_, _, _, z⟩ := r; exact False.elim z
  | cont => obtain ⟨_, _, _, z⟩ := r; exact False.elim z
  | ret v => obtain ⟨_, _, _, _, _, z⟩ := r; exact False.elim z
theorem ps_try_kept (hs : X.stack = X.env :: X.outer) (hf : X.env.frame = some X.env.locals) (hN : X.N.Nodup) (hi : X.N[i]? = some n) (hln : X.env.kindOf n = some .local) (hc : Names X x c) (hex : X.ex = [])
    (hb : ∀ (W : WX) (pn : List (Addr × Obj)) (xe : Value → Shared → Prop), Takes (X.tr pn xe) W → PassesOwn (model X.prog X.w) X.A X.env xe → PSs (X.tr pn xe) body (tb W))
    (hsu : ∀ (a : Addr) (oe : Obj) (cls : Value) (d : Option Addr) (pn : List (Addr × Obj)), Zc cls d oe → (∃ vs, oe.data = .fields vs) → PSs (X.suite a ((a, oe) :: pn)) (b0 :: suite) (ts a cls d)) :
    PS X (.Try body [.ExceptHandler (some (.Name x np)) (some n) (b0 :: suite) pos'] [] [] pos) (fun D σ H => tb (wKept X.K c i ts D) D σ H) := by
  refine ⟨fun pins s σ H D I h => wpAny_Try_except ?_⟩
  have ok := I.ok
  refine wpAny_mono ((hb _ (X.pn ++ pins) _ (fun u s' q => ?_) PassesOwn.looking).run [] s σ H D (I.toTry _) h) (fun f s1 r => ?_) (fun e s1 he => he)
  · exact catch_kept hs hf hN hi hln hc hex hsu ok q
  · cases f with
    | next => obtain ⟨σ1, H1, J1, q⟩ := r; exact wpAny_execs_nil ⟨σ1, H1, J1.ofTry ok, q⟩
    | brk => obtain ⟨σ1, H1, J1, q⟩ := r; exact ⟨σ1, H1, J1.ofTry ok, q⟩
    | cont => obtain ⟨σ1, H1, J1, q⟩ := r; exact ⟨σ1, H1, J1.ofTry ok, q⟩
    | ret v => obtain ⟨v1, σ1, H1, J1, rv, q⟩ := r; exact ⟨v1, σ1, H1, J1.ofTry ok, rv, q⟩
end
end Pd
namespace Pd
open PySem L2
/-! ### texts as lists of codes -/
abbrev mkS (l : List Nat) : Str := ⟨l.toArray⟩
def splC (c : Nat) : List Nat → List (List Nat)
  | [] => [[]]
  | x :: r => if x = c then [] :: splC c r else match splC c r with
    | [] => [[x]]
    | h :: t => (x :: h) :: t
theorem splC_ne (c : Nat) : ∀ l, splC c l ≠ []
  | [] => by simp [splC]
  | x :: r => by
    unfold splC
    split
    · simp
    · split <;> simp
theorem splC_hit {c : Nat} (r : List Nat) : splC c (c :: r) = [] :: splC c r := by
  rw [splC, if_pos rfl]
theorem splC_miss {c x : Nat} (r : List Nat) (h : x ≠ c) : ∃ p t, splC c r = p :: t ∧ splC c (x :: r) = (x :: p) :: t := by
  rw [splC, if_neg h]
  cases e : splC c r with
  | nil => exact absurd e (splC_ne c r)
  | cons p t => exact ⟨p, t, rfl, rfl⟩
theorem spl_splC (c : Nat) : ∀ (l acc p : List Nat) (t : List (List Nat)), splC c l = p :: t → TL.spl [c] 0 acc l = (acc ++ p) :: t
  | [], acc, p, t, h => by
    simp only [splC, List.cons.injEq] at h
    obtain ⟨h1, h2⟩ := h
    subst h1; subst h2
    rw [TL.spl_nil, List.append_nil]
  | x :: r, acc, p, t, h => by
    by_cases hx : x = c
    · subst hx
      rw [splC_hit, List.cons.injEq] at h
      obtain ⟨h1, h2⟩ := h
      subst h1
      rw [TL.spl_hit (by simp [TL.pre]), List.append_nil]
      cases e : splC x r with
      | nil => exact absurd e (splC_ne x r)
      | cons q u =>
        have ih := spl_splC x r [] q u e
        rw [List.nil_append] at ih
        rw [← h2, e]
        exact congrArg _ ih
    · obtain ⟨q, u, e1, e2⟩ := splC_miss r hx
      rw [e2, List.cons.injEq] at h
      obtain ⟨h1, h2⟩ := h
      subst h1; subst h2
      rw [TL.spl_miss (by simp [TL.pre, hx]), spl_splC c r (acc ++ [x]) q u e1, List.append_assoc]
      rfl
theorem spl_eq (c : Nat) (l : List Nat) : TL.spl [c] 0 [] l = splC c l := by
  cases e : splC c l with
  | nil => exact absurd e (splC_ne c l)
  | cons p t => rw [spl_splC c l [] p t e, List.nil_append]
theorem split_C {a b : Str} {c : Nat} (h : b.cps.toList = [c]) (hc : c < 256) : Txt.split a b = (splC c a.cps.toList).map mkS := by
  have e := TL.split_spl a b (by rw [show TL.tl b = [c] from h]; simp) (TL.kind_ok (by rw [← Array.all_toList, h]; simpa using hc))
  rw [show TL.tl b = [c] from h, spl_eq] at e
  apply TL.map_tl_inj
  rw [e, List.map_map]
  have : (TL.tl ∘ mkS) = id := by funext l; rfl
  rw [this, List.map_id]
theorem splC_len (c : Nat) : ∀ l, (splC c l).length ≤ l.length + 1
  | [] => by simp [splC]
  | x :: r => by
    have ih := splC_len c r
    by_cases hx : x = c
    · subst hx; rw [splC_hit]; simp; omega
    · obtain ⟨q, u, e1, e2⟩ := splC_miss r hx
      rw [e2]; rw [e1] at ih; simp at ih ⊢; omega
theorem splC_mem (c : Nat) : ∀ (l : List Nat), ∀ p ∈ splC c l, (∀ d ∈ p, d ∈ l) ∧ p.length ≤ l.length
  | [], p, h => by simp [splC] at h; subst h; simp
  | x :: r, p, h => by
    have ih := splC_mem c r
    by_cases hx : x = c
    · subst hx
      rw [splC_hit] at h
      rcases List.mem_cons.mp h with h | h
      · subst h; simp
      · obtain ⟨h1, h2⟩ := ih p h
        exact ⟨fun d hd => List.mem_cons_of_mem _ (h1 d hd), by simp; omega⟩
    · obtain ⟨q, u, e1, e2⟩ := splC_miss r hx
      rw [e2] at h
      rw [e1] at ih
      rcases List.mem_cons.mp h with h | h
      · subst h
        obtain ⟨h1, h2⟩ := ih q List.mem_cons_self
        refine ⟨fun d hd => ?_, by simp; omega⟩
        rcases List.mem_cons.mp hd with hd | hd
        · rw [hd]; exact List.mem_cons_self
        · exact List.mem_cons_of_mem _ (h1 d hd)
      · obtain ⟨h1, h2⟩ := ih p (List.mem_cons_of_mem _ h)
        exact ⟨fun d hd => List.mem_cons_of_mem _ (h1 d hd), by simp; omega⟩
theorem splC_free (c : Nat) : ∀ (l : List Nat), ∀ p ∈ splC c l, c ∉ p
  | [], p, h => by simp [splC] at h; subst h; simp
  | x :: r, p, h => by
    have ih := splC_free c r
    by_cases hx : x = c
    · subst hx
      rw [splC_hit] at h
      rcases List.mem_cons.mp h with h | h
      · subst h; simp
      · exact ih p h
    · obtain ⟨q, u, e1, e2⟩ := splC_miss r hx
      rw [e2] at h
      rw [e1] at ih
      rcases List.mem_cons.mp h with h | h
      · subst h
        intro hm
        rcases List.mem_cons.mp hm with hm | hm
        · exact hx hm.symm
        · exact ih q List.mem_cons_self hm
      · exact ih p (List.mem_cons_of_mem _ h)
theorem splC_join (c : Nat) {ps : List (List Nat)} (h : ps ≠ []) (hf : ∀ p ∈ ps, c ∉ p) : splC c (TL.joinL [c] ps) = ps := by rw [← spl_eq]; exact TL.spl_join h hf
theorem len_codes (x : Str) : x.length = x.cps.toList.length := TL.len_tl x
theorem sok_codes {l : List Nat} (h1 : ∀ c ∈ l, c < 0x110000) (h2 : l.length ≤ 1000000) : sok (mkS l) = true := sok_of h1 (by rw [len_codes]; exact h2)
theorem Dens.strs {Γ : Wd} {ρ : List Addr} {F : Hp} : ∀ {ys : List Str}, (∀ y ∈ ys, sok y = true) → Dens Γ ρ F (ys.map Dt.str) (ys.map V.str)
  | [], _ => by simp only [List.map_nil, Dens]
  | y :: ys, h => by
    simp only [List.map_cons, Dens]
    exact ⟨_, _, rfl, by simp only [Den]; exact ⟨trivial, h y List.mem_cons_self⟩, Dens.strs fun z hz => h z (List.mem_cons_of_mem _ hz)⟩
section
variable {J : Cn} {X : Cx} {W : WX} {a b c e e2 o tgt iter elt : Expr} {es ifs : List Expr} {fa fb fc fe fo fi fv : Ex} {fs : List Ex} {ft fu : Tx} {pos p apos cpos tpos : Pos} {st : Stmt} {rest : List Stmt} {f1 f2 : Sx}
/-- x.split(c), c one sign -/
def dSplit (nw : List Dt → Sto → Out Dt) (x y : Dt) (s : Sto) : Out Dt := match x with
  | .str a => match y with
    | .str b => match b.cps.toList with
      | [c] => if c < 256 then nw ((splC c a.cps.toList).map fun l => .str (mkS l)) s else .bad
      | _ => .bad
    | _ => .bad
  | _ => .bad
theorem m_split {nw : List Dt → Sto → Out Dt} (n : IsNw nw) : Bm1 J X "str" "split" isStr (dSplit nw) := ⟨_, _, PySem.F.plainAttrs_str, PySem.F.slot_str_split, PySem.F.type_str_split, mt_split, ty_str, fun ρ F s H x y dx dy Q E g rx ry k => by
  cases dx with
  | str a =>
    cases dy with
    | str b =>
      simp only [Den] at rx ry
      simp only [dSplit] at k
      split at k
      · rename_i c hc
        split at k
        · rename_i h256
          have hl := sok_le rx.2
          have hla : a.cps.toList.length ≤ 1000000 := by rw [← len_codes]; exact hl
          refine ⟨a, b, rx.1, by rw [ry.1], ?_, by rw [sizeLine_eq]; omega, fun p hp => ?_⟩
          · rw [len_codes, hc]; rfl
          · rw [split_C hc h256]
            have t : Dens (wd J X) ρ F (((splC c a.cps.toList).map mkS).map Dt.str) (((splC c a.cps.toList).map mkS).map V.str) := Dens.strs fun y hy => by
              obtain ⟨l, h1, h2⟩ := List.mem_map.mp hy
              obtain ⟨h3, h4⟩ := splC_mem c _ l h1
              rw [← h2]
              exact sok_codes (fun d hd => sok_mem rx.2 (h3 d hd)) (Nat.le_trans h4 hla)
            have hz : (((splC c a.cps.toList).map mkS).map Dt.str).length ≤ sizeLine := by
              have := splC_len c a.cps.toList
              rw [List.length_map, List.length_map, sizeLine_eq]; omega
            refine new_lst (E := E) n g t hz hp ?_
            rw [List.map_map]
            exact k
        · exact False.elim k
      · exact False.elim k
    | _ => exact False.elim k
  | _ => exact False.elim k⟩
/-- texts alone -/
def asS : List Dt → Option (List Str)
  | [] => some []
  | .str b :: r => (asS r).map (b :: ·)
  | _ => none
theorem asS_map : ∀ (ys : List Str), asS (ys.map Dt.str) = some ys
  | [] => rfl
  | y :: ys => by simp only [List.map_cons, asS, asS_map ys, Option.map_some]
theorem Dens.texts {Γ : Wd} {ρ : List Addr} {F : Hp} : ∀ {l : List Dt} {xs : List V} {ys : List Str}, Dens Γ ρ F l xs → asS l = some ys → xs = ys.map V.str ∧ ∀ y ∈ ys, sok y = true
  | [], xs, ys, h, e => by simp only [Dens] at h; simp only [asS, Option.some.injEq] at e; subst e; exact ⟨h, fun _ h => nomatch h⟩
  | d :: l, xs, ys, h, e => by
    simp only [Dens] at h
    obtain ⟨v, r, e1, q, t⟩ := h
    cases d with
    | str b =>
      simp only [asS, Option.map_eq_some_iff] at e
      obtain ⟨ys', e2, e3⟩ := e
      simp only [Den] at q
      obtain ⟨h1, h2⟩ := Dens.texts t e2
      subst e3; subst e1
      rw [q.1, h1]
      refine ⟨rfl, fun y hy => ?_⟩
      rcases List.mem_cons.mp hy with hy | hy
      · rw [hy]; exact q.2
      · exact h2 y hy
    | _ => simp [asS] at e
/-- sep.join(..) -/
def dJoin (x y : Dt) (s : Sto) : Out Dt := match x with
  | .str a => match (asQ s y).bind asS with
    | some ys => if (ys.map (·.length)).sum + ys.length * a.length ≤ 1000000 then .ok (.str (mkS (TL.joinL a.cps.toList (ys.map (·.cps.toList))))) s else .bad
    | none => .bad
  | _ => .bad
theorem joinL_mem {S : List Nat} : ∀ {ps : List (List Nat)} {c : Nat}, c ∈ TL.joinL S ps → c ∈ S ∨ ∃ p ∈ ps, c ∈ p
  | [], c, h => by simp [TL.joinL] at h
  | [p], c, h => .inr ⟨p, List.mem_cons_self, h⟩
  | p :: q :: r, c, h => by
    simp only [TL.joinL, List.mem_append] at h
    rcases h with h | h | h
    · exact .inr ⟨p, List.mem_cons_self, h⟩
    · exact .inl h
    · rcases joinL_mem h with h | ⟨z, h1, h2⟩
      · exact .inl h
      · exact .inr ⟨z, List.mem_cons_of_mem _ h1, h2⟩
theorem joinL_len {S : List Nat} : ∀ (ps : List (List Nat)), (TL.joinL S ps).length ≤ (ps.map (·.length)).sum + ps.length * S.length
  | [] => by simp [TL.joinL]
  | [p] => by simp [TL.joinL]
  | p :: q :: r => by
    have ih := joinL_len (S := S) (q :: r)
    simp only [TL.joinL, List.length_append, List.map_cons, List.sum_cons, List.length_cons] at ih ⊢
    rw [Nat.succ_mul (r.length + 1)]
    omega
theorem m_join : Bm1 J X "str" "join" isStr dJoin := ⟨_, _, PySem.F.plainAttrs_str, PySem.F.slot_str_join, PySem.F.type_str_join, mt_join, ty_str, fun ρ F s H x y dx dy Q E g rx ry k => by
  cases dx with
  | str a =>
    simp only [Den] at rx
    simp only [dJoin] at k
    split at k
    · rename_i ys hys
      split at k
      · rename_i hz
        obtain ⟨l, e1, e2⟩ := Option.bind_eq_some_iff.mp hys
        obtain ⟨ad, xs, e3, q, t, _⟩ := g.sqQ ry e1
        obtain ⟨e4, hs⟩ := t.texts e2
        subst e4
        have ej : Txt.join a ys = mkS (TL.joinL a.cps.toList (ys.map (·.cps.toList))) := by
          apply TL.ext_tl
          rw [TL.join_eq, TL.tl_join]
        refine ⟨a, ad, ys, rx.1, by rw [e3], q, by omega, ?_⟩
        rw [ej]
        refine k ρ F H _ LE.refl g ?_
        simp only [Den]
        refine ⟨trivial, sok_codes (fun c hc => ?_) ?_⟩
        · rcases joinL_mem hc with h | ⟨p, h1, h2⟩
          · exact sok_mem rx.2 h
          · obtain ⟨z, h3, h4⟩ := List.mem_map.mp h1
            rw [← h4] at h2
            exact sok_mem (hs z h3) h2
        · have h1 := joinL_len (S := a.cps.toList) (ys.map (·.cps.toList))
          rw [List.map_map, List.length_map, ← len_codes] at h1
          have h2 : (ys.map ((fun x => x.length) ∘ fun x : Str => x.cps.toList)) = ys.map (·.length) := List.map_congr_left fun z _ => (len_codes z).symm
          rw [h2] at h1
          omega
      · exact False.elim k
    · exact False.elim k
  | _ => exact False.elim k⟩
/-- x.startswith(y) -/
def dStarts (x y : Dt) (s : Sto) : Out Dt := match x with
  | .str a => match y with
    | .str b => .ok (.bl (TL.pre b.cps.toList a.cps.toList)) s
    | _ => .bad
  | _ => .bad
theorem starts_pre (a b : Str) : Txt.startswith a b = TL.pre b.cps.toList a.cps.toList := by
  unfold Txt.startswith
  rw [StrLaws.subAt_eq, List.drop_zero]
  have e : (a.cps.toList.take b.length == b.cps.toList) = TL.pre b.cps.toList a.cps.toList := by unfold TL.pre; rw [len_codes]
  rw [e]
  cases h : TL.pre b.cps.toList a.cps.toList with
  | false => rw [Bool.and_false]
  | true =>
    have h1 := eq_of_beq h
    have h2 := congrArg List.length h1
    rw [List.length_take] at h2
    rw [Bool.and_true]
    refine decide_eq_true ?_
    rw [len_codes, len_codes]
    omega
theorem m_starts : Bm1 J X "str" "startswith" isStr dStarts := ⟨_, _, PySem.F.plainAttrs_str, PySem.F.slot_str_startswith, PySem.F.type_str_startswith, mt_startswith, ty_str, fun ρ F s H x y dx dy Q E g rx ry k => by
  cases dx with
  | str a =>
    cases dy with
    | str b =>
      simp only [Den] at rx ry
      refine ⟨a, b, rx.1, by rw [ry.1], ?_⟩
      rw [starts_pre]
      exact k ρ F H _ LE.refl g (by simp only [Den])
    | _ => exact False.elim k
  | _ => exact False.elim k⟩
/-- xs.index(y), flat things, it is there -/
def dIndex (x y : Dt) (s : Sto) : Out Dt := match asL s x with
  | some l => if flatD y && l.all flatD then ofO s ((l.findIdx? fun e => feq e y).map fun (j : Nat) => .int j) else .bad
  | none => .bad
theorem m_index : Bm1 J X "list" "index" isLst dIndex := ⟨_, _, PySem.F.plainAttrs_list, PySem.F.slot_list_index, PySem.F.type_list_index, mt_index, ty_lst, fun ρ F s H x y dx dy Q E g rx ry k => by
  unfold dIndex at k
  split at k
  · rename_i l hl
    split at k
    · rename_i hf
      simp only [Bool.and_eq_true] at hf
      obtain ⟨d, e, k⟩ := Po.ofO k
      obtain ⟨j, e1, e2⟩ := Option.map_eq_some_iff.mp e
      subst e2
      obtain ⟨ad, xs, e3, q, t, _⟩ := g.sqL rx hl
      have e4 := t.flat hf.2
      have e5 := ry.flat hf.1
      obtain ⟨hj, h1, h2⟩ := List.findIdx?_eq_some_iff_getElem.mp e1
      have fl : ∀ (m : Nat) (hm : m < l.length), flatD l[m] = true := fun m hm => List.all_eq_true.mp hf.2 _ (List.getElem_mem hm)
      subst e4; subst e5
      refine ⟨ad, _, _, j, toVd l[j], e3, rfl, q, flatV_toVd _, all_flat_map _, by rw [List.getElem?_map, List.getElem?_eq_getElem hj]; rfl, by rw [eqV_toVd (fl j hj) hf.1]; exact h1, fun m z' hm hz => ?_, k ρ F H _ LE.refl g (by simp only [Den])⟩
      have hml : m < l.length := by omega
      rw [List.getElem?_map, List.getElem?_eq_getElem hml] at hz
      have hz2 : toVd l[m] = z' := Option.some.inj hz
      rw [← hz2, eqV_toVd (fl m hml) hf.1]
      simpa using h2 m hm
    · exact False.elim k
  · exact False.elim k⟩
/-! ### o[i] = v -/
def putAt (x y v : Dt) (s : Sto) : Option Sto := match y with
  | .int k => match lstAt s x with
    | some (i, l) => (ixN l.length k).map fun j => s.set i (.lst (l.set j v))
    | none => none
  | _ => none
def sSetI (fo fi fv : Ex) : Sx := fun env => sBnd (fv env) env fun v => sBnd (fo env) env fun x => sBnd (fi env) env fun y s => match putAt x y v s with
  | some s' => .fl (.nx env) s'
  | none => .bad
theorem ss_setI (ho : ES J X W o fo) (hi : ES J X W e fi) (hv : ES J X W e2 fv)
    (ha : ∀ v, assign (.Subscript o e tpos) X.env v = (do
      let ov ← holding [v] (eval o X.env)
      let iv ← holding [v, ov] (eval e X.env)
      standAt tpos
      holding [v, ov, iv] (setItem ov iv v)
      release [v, ov, iv] []) := by intro _; rfl)
    (hs : swapsWithSole [.Subscript o e tpos] e2 pos.line X.env = pure false := by rfl) (hw : swappedStores [.Subscript o e tpos] e2 X.env = pure none := by rfl)
    (h1 : (assignEach [.Subscript o e tpos] X.env).map (·.2) = [assign (.Subscript o e tpos) X.env] := by rfl) : SS J X W (.Assign [.Subscript o e tpos] e2 pos) (sSetI fo fi fv) :=
  PS.imp (ps_asg hv (pg_sub ho hi set_list ha) hs hw h1) fun D σ H ⟨env, ρ, F, s, g, l, k⟩ => ⟨env, ρ, F, s, g, l, FPo.bind k l fun v s1 ρ1 F1 H1 u e1 l1 g1 r1 k1 =>
    ⟨env, ρ1, F1, s1, g1, l.mono l1, FPo.bind k1 (l.mono l1) fun x s2 ρ2 F2 H2 ov e3 l2 g2 r2 k2 =>
      ⟨env, ρ2, F2, s2, g2, l.mono (l1.trans l2), FPo.bind k2 (l.mono (l1.trans l2)) fun y s3 ρ3 F3 H3 iv e4 l3 g3 r3 k3 => by
        cases ep : putAt x y v s3 with
        | none => rw [ep] at k3; exact False.elim k3
        | some s4 =>
          rw [ep] at k3
          cases y with
          | int n =>
            simp only [putAt] at ep
            split at ep
            · rename_i i xs hl
              obtain ⟨j, hj, ej⟩ := Option.map_eq_some_iff.mp ep
              subst ej
              obtain ⟨ad, vs, h1, h2, h3, h4, h5⟩ := g3.lat (Den.mono l3 _ _ r2) hl
              simp only [Den] at r3
              have hlen : xs.length = vs.length := h4.length
              refine ⟨ad, vs, n, j, h1, r3, h3, by rw [← hlen]; exact hj, ?_⟩
              exact k3 ρ3 F3 _ σ (LE.put (List.mem_of_getElem? h2)) (g3.setL h2 h3 (Dens.set (Den.mono (l2.trans l3) _ _ r1) j h4) (by rw [List.length_set]; exact h5)) (l.mono ((l1.trans l2).trans l3))
            · cases ep
          | _ => simp [putAt] at ep⟩⟩⟩
/-! ### recursion -/
def sBad : Sx := fun _ _ => .bad
theorem ss_bad {sts : List Stmt} : SSs J X W sts sBad := ⟨fun pins s σ H D I q => by obtain ⟨env, ρ, F, st, g, l, k⟩ := q; exact False.elim k⟩
end
end Pd
namespace Pd
open PySem L2
section
variable {J : Cn} {X : Cx} {W : WX} {a b c e e2 o tgt iter elt : Expr} {es ifs : List Expr} {fa fb fc fe fo fi fv : Ex} {fs : List Ex} {ft fu : Tx} {pos p p2 apos cpos tpos : Pos} {st : Stmt} {rest : List Stmt} {f1 f2 : Sx}
/-! ### isinstance of a caught error -/
def rIsX (K : PySem.W.Frag) : List V → Hp → VK → Prop := fun xs H Q => ∃ (a D : Addr) (c : V) (cv : Value) (b : Bool), xs = [.ref a, c] ∧ ClsV c cv ∧ H a = some (ExH D a) ∧ ExcC K D ∧ PySem.W.kitOne K (.ref D) cv = some b ∧ Q (.bl b) H
theorem call_isX : CallR X (.builtin "isinstance") (rIsX X.K) := by
  intro pins s σ H xs us Q I r h
  obtain ⟨a, D, c, cv, b, rfl, k, hH, C, e, q⟩ := h
  obtain ⟨u1, u2, rfl, r1, r2⟩ := vals2 r
  have e2 := k.eq r2
  subst e2
  cases (show u1 = Value.ref a from r1)
  obtain ⟨⟨oe, vs, hget, hz, hv⟩, _⟩ := I.hok a _ hH
  have J : PySem.W.InstAt s.heap a oe D none := by
    obtain ⟨oc, od, oda, osl⟩ := oe
    obtain ⟨h1, h2⟩ := hz
    dsimp only at h1 h2 hv
    subst h1 h2 hv
    exact ⟨hget, rfl, rfl, trivial⟩
  exact PySem.W.kia_one (PySem.W.handS_kitx_exc C.hg C.hk C.hs C.hd C.ha C.hn C.ht C.hm) I.kIn J e (fun z => nomatch z) fun tk => ⟨.bl b, H, I.kept (t' := tk) fun _ _ z => z, rfl, q⟩
/-- of which classes errors are instances of cv -/
def IsxF (J : Cn) (K : PySem.W.Frag) (mg : Str → Option Value) (tb : List (Nat × Bool)) (cv : Value) : Prop := ∀ n b, tb.lookup n = some b → ∀ C, mg (J n).1 = some (.ref C) → ExcC K C ∧ PySem.W.kitOne K (.ref C) cv = some b
theorem isx_nil {K : PySem.W.Frag} {mg : Str → Option Value} {cv : Value} : IsxF J K mg [] cv := fun n b h => by cases h
theorem isx_cons {K : PySem.W.Frag} {mg : Str → Option Value} {cv : Value} {n : Nat} {b : Bool} {tb : List (Nat × Bool)} {C : Addr} (hC : mg (J n).1 = some (.ref C)) (hE : ExcC K C) (hk : PySem.W.kitOne K (.ref C) cv = some b) (hr : IsxF J K mg tb cv) : IsxF J K mg ((n, b) :: tb) cv := fun m b' h C' hC' => by
  rw [List.lookup_cons] at h
  split at h
  · rename_i q
    have e := eq_of_beq q
    subst e
    cases h
    have z := hC.symm.trans hC'
    cases z
    exact ⟨hE, hk⟩
  · exact hr m b' h C' hC'
def dIsx (tb : List (Nat × Bool)) (d : Dt) (s : Sto) : Out Dt := match d with
  | .exc c => ofO s ((tb.lookup c).map .bl)
  | _ => .bad
theorem isx_of {tb : List (Nat × Bool)} {cv : Value} {c : V} (hcv : ClsV c cv) (hf : IsxF J X.K X.mg tb cv) {ρ : List Addr} {F H : Hp} {s : Sto} {x : V} {d : Dt} {Q : VK} {E : Value → Hp → Prop} (g : G (wd J X) ρ F s H) (r : Den (wd J X) ρ F d x) (k : EPo (wd J X) ρ F H Q E (dIsx tb d s)) : rIsX X.K [x, c] H Q := by
  cases d with
  | exc n =>
    simp only [Den] at r
    obtain ⟨ad, C, e1, hC, hF⟩ := r
    obtain ⟨d, e3, k1⟩ := Po.ofO k
    obtain ⟨t, e4, e5⟩ := Option.map_eq_some_iff.mp e3
    subst e5
    obtain ⟨hE, hk⟩ := hf n t e4 C hC
    exact ⟨ad, C, c, cv, t, by rw [e1], hcv, g.sub _ _ hF, hE, hk, k1 ρ F H _ LE.refl g (by simp only [Den])⟩
  | _ => exact False.elim k
theorem es_isx {T : Str} {C : Addr} {tb : List (Nat × Bool)} (hf : IsxF J X.K X.mg tb (.ref C)) (hg : Gl X "isinstance") (hm : X.mg "isinstance" = none) (hgT : Gl X T) (hmT : X.mg T = some (.ref C)) (ha : ES J X W e fe)
    (hd : (T == ("__debug__" : Str)) = false := by decide)
    (he : starEach [e, .Name T p2] X.env = [(false, eval e X.env), (false, eval (.Name T p2) X.env)] := by rfl) : ES J X W (.Call (.Name "isinstance" p) [e, .Name T p2] [] pos) (eUn (dIsx tb) fe) :=
  PE.imp (pe_callB call_isX hg hm (by decide +kernel) (pa_cons ha (pa_cons (pe_glob (v := .ref C) hgT hmT rfl hd) pa_nil rfl) (by exact he)) (by decide) (by decide) (by exact he) rfl) fun σ H Q ⟨env, ρ, F, s, g, l, k⟩ => ⟨env, ρ, F, s, g, l, Po.bind k fun x s1 ρ1 F1 H1 v e1 l1 g1 r1 k1 => isx_of (.own C) hf g1 r1 k1⟩
theorem es_isxT {T : Str} {n : String} {tb : List (Nat × Bool)} (hf : IsxF J X.K X.mg tb (.type n)) (hg : Gl X "isinstance") (hm : X.mg "isinstance" = none) (hgT : Gl X T) (hmT : X.mg T = none) (hv : bootBuiltins T = some (.type n)) (ha : ES J X W e fe)
    (hn : T ≠ "__name__" := by decide) (hd : (T == ("__debug__" : Str)) = false := by decide)
    (he : starEach [e, .Name T p2] X.env = [(false, eval e X.env), (false, eval (.Name T p2) X.env)] := by rfl) : ES J X W (.Call (.Name "isinstance" p) [e, .Name T p2] [] pos) (eUn (dIsx tb) fe) :=
  PE.imp (pe_callB call_isX hg hm (by decide +kernel) (pa_cons ha (pa_cons (pe_bltn (v := .ty n) hgT hmT hv rfl hn hd) pa_nil rfl) (by exact he)) (by decide) (by decide) (by exact he) rfl) fun σ H Q ⟨env, ρ, F, s, g, l, k⟩ => ⟨env, ρ, F, s, g, l, Po.bind k fun x s1 ρ1 F1 H1 v e1 l1 g1 r1 k1 => isx_of (.ty n) hf g1 r1 k1⟩
/-! ### try: .. except C as n: held = n -/
/-- errors of these classes are taken by the clause of cv -/
def XmF (J : Cn) (K : PySem.W.Frag) (mg : Str → Option Value) (tb : List Nat) (cv : Value) : Prop := ∀ n, n ∈ tb → ∀ C, mg (J n).1 = some (.ref C) → PySem.W.exmOne K (.ref C) cv = some true
theorem xm_nil {K : PySem.W.Frag} {mg : Str → Option Value} {cv : Value} : XmF J K mg [] cv := fun n h => nomatch h
theorem xm_cons {K : PySem.W.Frag} {mg : Str → Option Value} {cv : Value} {n : Nat} {tb : List Nat} {C : Addr} (hC : mg (J n).1 = some (.ref C)) (hk : PySem.W.exmOne K (.ref C) cv = some true) (hr : XmF J K mg tb cv) : XmF J K mg (n :: tb) cv := fun m h C' hC' => by
  rcases List.mem_cons.mp h with e | h
  · subst e
    have z := hC.symm.trans hC'
    cases z
    exact hk
  · exact hr m h C' hC'
def sTryH (ih ie : Nat) (tb : List Nat) (fb : Sx) : Sx := fun env s => match fb env s with
  | .exc c env' s' => if c ∈ tb ∧ ie < env'.length then .fl (.nx ((env'.set ih (some (.exc c))).set ie none)) s' else .bad
  | r => r
theorem ss_try_held {x n h : Str} {cv : Value} {ie ih : Nat} {tb : List Nat} {body : List Stmt} {np pos' hp ep hpos : Pos} {fb : Sx} (hs : X.stack = X.env :: X.outer) (hf : X.env.frame = some X.env.locals) (hN : X.N.Nodup) (hi : X.N[ie]? = some n) (hln : X.env.kindOf n = some .local) (hc : Names X x cv) (hex : X.ex = []) (hm : XmF J X.K X.mg tb cv)
    (hb : ∀ (W : WX) (pn : List (Addr × Obj)) (xe : Value → Shared → Prop), Tks false (X.tr pn xe) W → PassesOwn (model X.prog X.w) X.A X.env xe → SSs J (X.tr pn xe) W body fb)
    (hv : ∀ (a : Addr) (pn : List (Addr × Obj)), PE (X.suite a pn) (.Name n ep) (tVar ie)) (hg : ∀ (a : Addr) (pn : List (Addr × Obj)), PG (X.suite a pn) (.Name h hp) (gName ih))
    (hsw : ∀ (a : Addr) (pn : List (Addr × Obj)), swapsWithSole [.Name h hp] (.Name n ep) hpos.line (X.suite a pn).env = pure false := by intro _ _; rfl) (hw : ∀ (a : Addr) (pn : List (Addr × Obj)), swappedStores [.Name h hp] (.Name n ep) (X.suite a pn).env = pure none := by intro _ _; rfl)
    (h1 : ∀ (a : Addr) (pn : List (Addr × Obj)), (assignEach [.Name h hp] (X.suite a pn).env).map (·.2) = [assign (.Name h hp) (X.suite a pn).env] := by intro _ _; rfl) :
    SS J X W (.Try body [.ExceptHandler (some (.Name x np)) (some n) [.Assign [.Name h hp] (.Name n ep) hpos] pos'] [] [] pos) (sTryH ih ie tb fb) := by
  refine PS.imp (ps_try_kept (tb := fun W => tS (wd J X) W fb) (ts := fun a cls d => tAsg (tVar ie) (gName ih)) hs hf hN hi hln hc hex (fun W pn xe tk po => hb W pn xe tk po) (fun a oe cls d pn _ _ => pss_one (ps_asg (hv a _) (hg a _) (hsw a _) (hw a _) (h1 a _)))) fun D σ H ⟨env, ρ, F, s, g, l, k⟩ => ⟨env, ρ, F, s, g, l, ?_⟩
  unfold sTryH at k
  cases er : fb env s with
  | fl f s1 => rw [er] at k; cases f <;> exact k
  | bad => rw [er] at k; exact k
  | exc cn env1 s1 =>
    rw [er] at k
    simp only [] at k
    split at k
    · rename_i hq
      intro ρ1 F1 H1 σ1 C l1 g1 sl1 hC
      refine ⟨hm cn hq.1 C hC, C, rfl, rfl, fun a ha => ?_⟩
      have hlen : ie < σ1.length := by rw [← sl1.len]; exact hq.2
      refine ⟨.ref a, List.getElem?_set_self hlen, fun hn => ?_⟩
      have g2 := g1.frz (ExH C a) ha
      have l2 := LE.frz (o := ExH C a) g1 ha
      have dx : Den (wd J X) ρ1 (upd F1 a (ExH C a)) (.exc cn) (.ref a) := by
        simp only [Den]
        exact ⟨a, C, rfl, hC, upd_same⟩
      refine k ρ1 _ _ _ (l1.trans l2) g2 ?_
      have s3 := ((sl1.mono l2).set dx ih).unset ie
      refine ⟨by rw [s3.len]; simp, fun i d hd => ?_⟩
      obtain ⟨v, q1, q2⟩ := s3.at_ i d hd
      refine ⟨v, ?_, q2⟩
      rw [← q1]
      by_cases e1 : ie = i
      · subst e1
        rw [List.getElem?_set_self (by simpa using hlen), List.getElem?_set_self (by simpa using hlen)]
      · rw [List.getElem?_set_ne e1, List.getElem?_set_ne e1]
        by_cases e2 : ih = i
        · subst e2
          by_cases e3 : ih < σ1.length
          · rw [List.getElem?_set_self (by simpa using e3), List.getElem?_set_self (by simpa using e3)]
          · rw [List.getElem?_eq_none (by simpa using e3), List.getElem?_eq_none (by simpa using e3)]
        · rw [List.getElem?_set_ne e2, List.getElem?_set_ne e2, List.getElem?_set_ne e1]
    · exact False.elim k
/-! ### xs.count(y), flat things -/
theorem count_eqU {x : V} : ∀ {xs : List V} {us : List Value}, Vals xs us → xs.all flatV = true → us.countP (eqU x) = xs.countP fun y => eqV y x
  | _, _, .nil, _ => rfl
  | y :: ys, u :: us, .cons r t, f => by
    simp only [List.all_cons, Bool.and_eq_true] at f
    rw [List.countP_cons, List.countP_cons, count_eqU t f.2, eqU_of r f.1]
def rCntF (K : PySem.W.Frag) : V → List V → Hp → VK → Prop := fun x xs H Q => ∃ (p : Addr) (ys : List V) (y : V), x = .ref p ∧ xs = [y] ∧ SqL K H p ys ∧ flatV y = true ∧ ys.all flatV = true ∧ Q (.int ((ys.countP fun z => eqV z y : Nat) : Int)) H
theorem mt_cntF : MtR X "list.count" (rCntF X.K) := by
  intro pins s σ H x xs v us Q I rx rxs h
  obtain ⟨p, ys, y, rfl, rfl, hs, fy, fs, q⟩ := h
  cases rx
  obtain ⟨u, rfl, ru⟩ := rxs.one
  obtain ⟨its, rv, ⟨⟨cls, dd, data, sl⟩, n, ho, hc, hdn, hd⟩, hlen⟩ := I.list hs
  simp only at hc hd
  subst hc hd
  refine call_meets PySem.F.slot_list_count ⟨_, ho, rfl⟩ PySem.F.entry_list_count (PySem.F.args_list_count_2 _ _)
    (SeqAt.list_countAt p its.toArray n dd sl u (eqU y)) ⟨ho, fun w hw => mem_eqAt ru fy rv fs w (by simpa using hw), ?_⟩
  have ec : its.toArray.toList.countP (eqU y) = ys.countP fun z => eqV z y := count_eqU rv fs
  refine ⟨.int ((ys.countP fun z => eqV z y : Nat) : Int), H, I.tok _, ⟨s.toks, ?_⟩, q⟩
  show Value.int ((its.toArray.toList.countP (eqU y) : Nat) : Int) s.toks = Value.int ((ys.countP fun z => eqV z y : Nat) : Int) s.toks
  rw [ec]
def dCount (x y : Dt) (s : Sto) : Out Dt := match asL s x with
  | some l => if flatD y && l.all flatD then .ok (.int ((l.countP fun e => feq e y : Nat) : Int)) s else .bad
  | none => .bad
theorem count_toVd {x : Dt} (hx : flatD x = true) : ∀ {ds : List Dt}, ds.all flatD = true → ((ds.map toVd).countP fun z => eqV z (toVd x)) = ds.countP fun e => feq e x
  | [], _ => rfl
  | d :: ds, k => by
    simp only [List.all_cons, Bool.and_eq_true] at k
    rw [List.map_cons, List.countP_cons, List.countP_cons, count_toVd hx k.2, eqV_toVd k.1 hx]
theorem m_count : Bm1 J X "list" "count" isLst dCount := ⟨_, _, PySem.F.plainAttrs_list, PySem.F.slot_list_count, PySem.F.type_list_count, mt_cntF, ty_lst, fun ρ F s H x y dx dy Q E g rx ry k => by
  unfold dCount at k
  split at k
  · rename_i l hl
    split at k
    · rename_i hf
      simp only [Bool.and_eq_true] at hf
      obtain ⟨ad, xs, e3, q, t, _⟩ := g.sqL rx hl
      have e4 := t.flat hf.2
      have e5 := ry.flat hf.1
      subst e4; subst e5
      refine ⟨ad, _, _, e3, rfl, q, flatV_toVd _, all_flat_map _, ?_⟩
      rw [count_toVd hf.1 hf.2]
      exact k ρ F H _ LE.refl g (by simp only [Den])
    · exact False.elim k
  · exact False.elim k⟩
end
end Pd
namespace Pd
open PySem L2
section
variable {J : Cn} {X : Cx} {W : WX} {a b c e e2 o tgt iter elt : Expr} {es ifs : List Expr} {fa fb fc fe fo fi fv : Ex} {fs : List Ex} {ft fu : Tx} {pos p p2 apos cpos tpos : Pos} {st : Stmt} {rest : List Stmt} {f1 f2 : Sx}
/-! ### a, b = x, y -/
def sPar (i j : Nat) (fa fb : Ex) : Sx := fun env => sBnd (evs [fa, fb] env) env fun ds s => match ds with
  | [x, y] => .fl (.nx ((env.set i (some x)).set j (some y))) s
  | _ => .bad
theorem ss_par {i j : Nat} {x y : Str} {px py pt : Pos} {kt k2 pt2} (hc : X.calm = true) (hN : X.N.Nodup) (hi : X.N[i]? = some x) (hj : X.N[j]? = some y) (hij : i ≠ j)
    (hx : X.env.scope.names.lookup x = some .local) (hy : X.env.scope.names.lookup y = some .local) (ha : ASo J X W [a, b] [fa, fb])
    (hw : swappedStores [.Tuple [.Name x px, .Name y py] kt pt] (.Tuple [a, b] k2 pt2) X.env = pure (some [x, y]))
    (hs : swapsWithSole [.Tuple [.Name x px, .Name y py] kt pt] (.Tuple [a, b] k2 pt2) pos.line X.env = pure false := by rfl) :
    SS J X W (.Assign [.Tuple [.Name x px, .Name y py] kt pt] (.Tuple [a, b] k2 pt2) pos) (sPar i j fa fb) :=
  PS.imp (ps_par hc hN hi hj hij hx hy ha hw hs) fun D σ H ⟨env, ρ, F, s, g, l, k⟩ => ⟨env, ρ, F, s, g, l, FPo.bind k l fun ds s1 ρ1 F1 H1 vs e1 l1 g1 r1 k1 => by
    match ds, k1, r1 with
    | [d1, d2], k1, r1 =>
      simp only [Dens] at r1
      obtain ⟨v, r, e2, q1, v2, r2, e3, q2, e4⟩ := r1
      subst e2; subst e3; subst e4
      exact ⟨v, v2, rfl, k1 ρ1 F1 H1 _ LE.refl g1 (((l.mono l1).set q1 i).set q2 j)⟩
    | [], k1, _ => exact False.elim k1
    | [d1], k1, _ => exact False.elim k1
    | d1 :: d2 :: d3 :: ds, k1, _ => exact False.elim k1⟩
/-! ### is, is not of truths -/
theorem op_isB : OpR X (compareOp .Is) (fun x y H Q => ∃ a b, x = .bl a ∧ y = .bl b ∧ Q (.bl (a == b)) H) := by
  intro pins s σ H x y v u Q I rx ry h
  obtain ⟨a, b, rfl, rfl, q⟩ := h
  cases (show v = Value.bool a from rx)
  cases (show u = Value.bool b from ry)
  exact wpAny_is_plain rfl (fin_bl I q (by cases a <;> cases b <;> rfl))
theorem op_isNotB : OpR X (compareOp .IsNot) (fun x y H Q => ∃ a b, x = .bl a ∧ y = .bl b ∧ Q (.bl (!(a == b))) H) := by
  intro pins s σ H x y v u Q I rx ry h
  obtain ⟨a, b, rfl, rfl, q⟩ := h
  cases (show v = Value.bool a from rx)
  cases (show u = Value.bool b from ry)
  exact wpAny_isNot_plain rfl (fin_bl I q (by cases a <;> cases b <;> rfl))
def dIsB (x y : Dt) (s : Sto) : Out Dt := match x with
  | .bl a => match y with
    | .bl b => .ok (.bl (a == b)) s
    | _ => .bad
  | _ => .bad
def dIsNotB (x y : Dt) (s : Sto) : Out Dt := match x with
  | .bl a => match y with
    | .bl b => .ok (.bl (!(a == b))) s
    | _ => .bad
  | _ => .bad
theorem c_isB : CmpOk J X .Is dIsB := ⟨_, op_isB, fun ρ F s H x y dx dy Q E g rx ry k => by
  cases dx with
  | bl a =>
    cases dy with
    | bl b => simp only [Den] at rx ry; exact ⟨a, b, rx, ry, k ρ F H _ LE.refl g (by simp only [Den])⟩
    | _ => exact False.elim k
  | _ => exact False.elim k⟩
theorem c_isNotB : CmpOk J X .IsNot dIsNotB := ⟨_, op_isNotB, fun ρ F s H x y dx dy Q E g rx ry k => by
  cases dx with
  | bl a =>
    cases dy with
    | bl b => simp only [Den] at rx ry; exact ⟨a, b, rx, ry, k ρ F H _ LE.refl g (by simp only [Den])⟩
    | _ => exact False.elim k
  | _ => exact False.elim k⟩
/-! ### list * int -/
def dRep (nw : List Dt → Sto → Out Dt) (x y : Dt) (s : Sto) : Out Dt := match y with
  | .int k => match trkL s x with
    | some l => if k < 1000000 ∧ -1000000 < k ∧ l.length * k.toNat ≤ sizeLine then nw (List.replicate k.toNat l).flatten s else .bad
    | none => .bad
  | _ => .bad
theorem Dens.rep {Γ : Wd} {ρ : List Addr} {F : Hp} {l : List Dt} {xs : List V} (t : Dens Γ ρ F l xs) : ∀ n : Nat, Dens Γ ρ F (List.replicate n l).flatten (List.replicate n xs).flatten
  | 0 => by simp [Dens]
  | n + 1 => by
    rw [List.replicate_succ, List.replicate_succ, List.flatten_cons, List.flatten_cons]
    exact Dens.append t (Dens.rep t n)
theorem es_rep {nw : List Dt → Sto → Out Dt} (n : IsNw nw) (ha : ES J X W a fa) (hb : ES J X W b fb) : ES J X W (.BinOp a .Mult b pos) (eOp (dRep nw) fa fb) :=
  es_op op_rep (fun ρ F s H x y dx dy Q E g rx ry k => by
    cases dy with
    | int m =>
      simp only [Den] at ry
      simp only [dRep] at k
      split at k
      · rename_i l hl
        split at k
        · rename_i hz
          obtain ⟨ad, xs, e1, q, t, _⟩ := g.trk rx hl
          have hlen : (List.replicate m.toNat l).flatten.length ≤ sizeLine := by
            rw [List.length_flatten, List.map_replicate, List.sum_replicate_nat, Nat.mul_comm]
            exact hz.2.2
          exact ⟨ad, m, xs, e1, ry, q, by omega, by omega, by rw [← t.length]; exact hz.2.2, fun p hp => new_lst n g (t.rep m.toNat) hlen hp k⟩
        · exact False.elim k
      · exact False.elim k
    | _ => exact False.elim k) ha hb
end
end Pd
namespace Pd
open PySem L2
/-! ### tables -/
section
variable {κ α : Type} [DecidableEq κ]
def valA (kvs : List (κ × α)) (k : κ) : Option α := (kvs.find? fun kv => decide (kv.1 = k)).map (·.2)
def putA (kvs : List (κ × α)) (k : κ) (v : α) : List (κ × α) :=
  if (kvs.any fun kv => decide (kv.1 = k)) = true then kvs.map (fun kv => if kv.1 = k then (kv.1, v) else kv) else kvs ++ [(k, v)]
def dropA (kvs : List (κ × α)) (k : κ) : List (κ × α) := kvs.filter fun kv => decide (kv.1 ≠ k)
theorem length_putA (kvs : List (κ × α)) (k : κ) (v : α) : (putA kvs k v).length ≤ kvs.length + 1 := by
  unfold putA
  split
  · rw [List.length_map]; omega
  · rw [List.length_append]; simp
theorem putA_keys {kvs : List (κ × α)} {k : κ} {v : α} {P : κ → Prop} (h : ∀ kv ∈ kvs, P kv.1) (hk : P k) : ∀ kv ∈ putA kvs k v, P kv.1 := fun kv hkv => by
  unfold putA at hkv
  split at hkv
  · obtain ⟨x, h1, h2⟩ := List.mem_map.mp hkv
    rw [← h2]
    split
    · exact h x h1
    · exact h x h1
  · rcases List.mem_append.mp hkv with h1 | h1
    · exact h kv h1
    · rw [List.mem_singleton] at h1; rw [h1]; exact hk
variable {Γ : Wd} {ρ : List Addr} {F : Hp}
theorem DenK.val : ∀ {kvs : List (κ × Dt)} {vs : List (κ × V)} (k : κ), DenK Γ ρ F kvs vs → (valA kvs k = none ∧ valV vs k = none) ∨ ∃ d v, valA kvs k = some d ∧ valV vs k = some v ∧ Den Γ ρ F d v
  | [], vs, k, h => by
    simp only [DenK] at h
    subst h
    exact .inl ⟨rfl, rfl⟩
  | (f, d) :: r, vs, k, h => by
    obtain ⟨v, r', e, q, t⟩ := h
    subst e
    by_cases hf : f = k
    · refine .inr ⟨d, v, ?_, ?_, q⟩
      · simp [valA, List.find?_cons, hf]
      · simp [valV, List.find?_cons, hf]
    · rcases DenK.val k t with ⟨h1, h2⟩ | ⟨d', v', h1, h2, h3⟩
      · refine .inl ⟨?_, ?_⟩
        · rw [← h1]; simp [valA, List.find?_cons, hf]
        · rw [← h2]; simp [valV, List.find?_cons, hf]
      · refine .inr ⟨d', v', ?_, ?_, h3⟩
        · rw [← h1]; simp [valA, List.find?_cons, hf]
        · rw [← h2]; simp [valV, List.find?_cons, hf]
theorem DenK.any : ∀ {kvs : List (κ × Dt)} {vs : List (κ × V)} (k : κ), DenK Γ ρ F kvs vs → (kvs.any fun kv => decide (kv.1 = k)) = vs.any fun kv => decide (kv.1 = k)
  | [], vs, k, h => by simp only [DenK] at h; subst h; rfl
  | (f, d) :: r, vs, k, h => by
    obtain ⟨v, r', e, q, t⟩ := h
    subst e
    rw [List.any_cons, List.any_cons, DenK.any k t]
theorem DenK.repl {d : Dt} {v : V} (hd : Den Γ ρ F d v) : ∀ {kvs : List (κ × Dt)} {vs : List (κ × V)} (k : κ), DenK Γ ρ F kvs vs → DenK Γ ρ F (kvs.map fun kv => if kv.1 = k then (kv.1, d) else kv) (vs.map fun kv => if kv.1 = k then (kv.1, v) else kv)
  | [], vs, k, h => by simp only [DenK] at h; subst h; simp [DenK]
  | (f, d') :: r, vs, k, h => by
    obtain ⟨v', r', e, q, t⟩ := h
    subst e
    rw [List.map_cons, List.map_cons]
    by_cases hf : f = k
    · simp only [hf, if_true]
      exact ⟨v, _, rfl, hd, DenK.repl hd k t⟩
    · simp only [hf, if_false]
      exact ⟨v', _, rfl, q, DenK.repl hd k t⟩
theorem DenK.snoc {d : Dt} {v : V} (hd : Den Γ ρ F d v) (k : κ) : ∀ {kvs : List (κ × Dt)} {vs : List (κ × V)}, DenK Γ ρ F kvs vs → DenK Γ ρ F (kvs ++ [(k, d)]) (vs ++ [(k, v)])
  | [], vs, h => by
    simp only [DenK] at h
    subst h
    exact ⟨v, [], rfl, hd, rfl⟩
  | (f, d') :: r, vs, h => by
    obtain ⟨v', r', e, q, t⟩ := h
    subst e
    exact ⟨v', _, rfl, q, DenK.snoc hd k t⟩
theorem DenK.put {d : Dt} {v : V} (hd : Den Γ ρ F d v) (k : κ) {kvs : List (κ × Dt)} {vs : List (κ × V)} (h : DenK Γ ρ F kvs vs) : DenK Γ ρ F (putA kvs k d) (putK vs k v) := by
  unfold putA putK
  rw [h.any k]
  split
  · exact DenK.repl hd k h
  · exact DenK.snoc hd k h
theorem DenK.drop (k : κ) : ∀ {kvs : List (κ × Dt)} {vs : List (κ × V)}, DenK Γ ρ F kvs vs → DenK Γ ρ F (dropA kvs k) (dropK vs k)
  | [], vs, h => by simp only [DenK] at h; subst h; exact rfl
  | (f, d') :: r, vs, h => by
    obtain ⟨v', r', e, q, t⟩ := h
    subst e
    have ih := DenK.drop k t
    unfold dropA dropK at ih ⊢
    rw [List.filter_cons, List.filter_cons]
    by_cases hf : f = k
    · simp only [hf, ne_eq, not_true_eq_false, decide_false, Bool.false_eq_true, if_false]
      exact ih
    · simp only [hf, ne_eq, not_false_eq_true, decide_true, if_true]
      exact ⟨v', _, rfl, q, ih⟩
end
/-! ### keys -/
def keyD : Dt → Option Key
  | .int i => some (.inl i)
  | .str x => some (.inr x)
  | _ => none
def keysL : List Dt → Option (List Key)
  | [] => some []
  | d :: r => match keyD d, keysL r with
    | some k, some ks => some (k :: ks)
    | _, _ => none
def keysD : Dt → Option (List Key)
  | .tup l => keysL l
  | _ => none
section
variable {Γ : Wd} {ρ : List Addr} {F H : Hp} {s : Sto}
theorem Den.key {d : Dt} {v : V} {k : Key} (h : Den Γ ρ F d v) (e : keyD d = some k) : v = kV k ∧ kOk k = true := by
  cases d with
  | int i => simp only [Den] at h; simp only [keyD, Option.some.injEq] at e; subst e; exact ⟨h, rfl⟩
  | str x => simp only [Den] at h; simp only [keyD, Option.some.injEq] at e; subst e; exact h
  | _ => simp [keyD] at e
theorem Dens.keys : ∀ {ds : List Dt} {vs : List V} {ks : List Key}, Dens Γ ρ F ds vs → keysL ds = some ks → vs = ks.map kV ∧ ks.all kOk = true
  | [], vs, ks, h, e => by
    simp only [Dens] at h; simp only [keysL, Option.some.injEq] at e
    subst h; subst e
    exact ⟨rfl, rfl⟩
  | d :: ds, vs, ks, h, e => by
    simp only [Dens] at h; simp only [keysL] at e
    obtain ⟨v, r, e1, q, t⟩ := h
    split at e
    · rename_i k ks' h1 h2
      cases e
      obtain ⟨a1, a2⟩ := q.key h1
      obtain ⟨b1, b2⟩ := Dens.keys t h2
      subst e1
      rw [a1, b1]
      exact ⟨rfl, by rw [List.all_cons, a2, b2]; rfl⟩
    · cases e
/-- what a dict of the store holds at a key -/
def dgetD (s : Sto) (x y : Dt) : Option (Option Dt) := match x with
  | .obj i => match s[i]? with
    | some (.dic kvs) => (keyD y).map (valA kvs)
    | some (.dicL kvs) => (keyD y).map (valA kvs)
    | some (.dit kvs) => (keysD y).map (valA kvs)
    | some (.ditL kvs) => (keysD y).map (valA kvs)
    | _ => none
  | _ => none
def ROD (Γ : Wd) (ρ : List Addr) (F : Hp) (o : Option Dt) (r : Option V) : Prop := (o = none ∧ r = none) ∨ ∃ d v, o = some d ∧ r = some v ∧ Den Γ ρ F d v
theorem Den.tupAt (g : G Γ ρ F s H) {d : Dt} {v : V} {ks : List Key} (h : Den Γ ρ F d v) (e : keysD d = some ks) : ∃ b, v = .ref b ∧ H b = some (.tup (ks.map kV)) ∧ ks.all kOk = true := by
  cases d with
  | tup l =>
    simp only [Den] at h
    obtain ⟨_, a, xs, e1, q, t⟩ := h
    obtain ⟨h1, h2⟩ := t.keys e
    subst h1
    exact ⟨a, e1, g.sub _ _ q, h2⟩
  | _ => simp [keysD] at e
theorem G.dget (g : G Γ ρ F s H) {x y : Dt} {v u : V} {o : Option Dt} (rx : Den Γ ρ F x v) (ry : Den Γ ρ F y u) (e : dgetD s x y = some o) : ∃ a r, v = .ref a ∧ DGet H a u r ∧ ROD Γ ρ F o r ∧ IsD H a := by
  cases x with
  | obj i =>
    simp only [Den] at rx
    obtain ⟨a, e1, q⟩ := rx
    simp only [dgetD] at e
    split at e
    · rename_i kvs hs
      obtain ⟨_, vs, hx, t⟩ := g.at_ i a _ q hs
      obtain ⟨k, h1, h2⟩ := Option.map_eq_some_iff.mp e
      obtain ⟨a1, _⟩ := ry.key h1
      subst a1; subst h2
      exact ⟨a, _, e1, .inl ⟨vs, k, .inl hx, rfl, rfl⟩, t.val k, .inl ⟨vs, .inl hx⟩⟩
    · rename_i kvs hs
      obtain ⟨_, od, vs, hx, t⟩ := g.at_ i a _ q hs
      obtain ⟨k, h1, h2⟩ := Option.map_eq_some_iff.mp e
      obtain ⟨a1, _⟩ := ry.key h1
      subst a1; subst h2
      exact ⟨a, _, e1, .inl ⟨vs, k, .inr ⟨od, hx.1⟩, rfl, rfl⟩, t.val k, .inl ⟨vs, .inr ⟨od, hx.1⟩⟩⟩
    · rename_i kvs hs
      obtain ⟨_, vs, hx, t⟩ := g.at_ i a _ q hs
      obtain ⟨k, h1, h2⟩ := Option.map_eq_some_iff.mp e
      obtain ⟨b, b1, b2, _⟩ := Den.tupAt g ry h1
      subst h2
      exact ⟨a, _, e1, .inr ⟨vs, k, b, .inl hx, b1, b2, rfl⟩, t.val k, .inr ⟨vs, .inl hx⟩⟩
    · rename_i kvs hs
      obtain ⟨_, od, vs, hx, t⟩ := g.at_ i a _ q hs
      obtain ⟨k, h1, h2⟩ := Option.map_eq_some_iff.mp e
      obtain ⟨b, b1, b2, _⟩ := Den.tupAt g ry h1
      subst h2
      exact ⟨a, _, e1, .inr ⟨vs, k, b, .inr ⟨od, hx.1⟩, b1, b2, rfl⟩, t.val k, .inr ⟨vs, .inr ⟨od, hx.1⟩⟩⟩
    · cases e
  | _ => simp [dgetD] at e
end
section
variable {J : Cn} {X : Cx} {W : WX} {a b c e e2 o tgt iter elt : Expr} {es ifs : List Expr} {fa fb fc fe fo fi fv fx : Ex} {fs : List Ex} {ft fu : Tx} {pos p p2 apos cpos tpos : Pos} {st : Stmt} {rest : List Stmt} {f1 f2 : Sx}
def eDnewK : Ex := fun _ s => .ok (.obj s.length) (s ++ [.dic []])
def eDnewT : Ex := fun _ s => .ok (.obj s.length) (s ++ [.dit []])
theorem es_dnewK : ES J X W (.Dict [] [] pos) eDnewK := PE.imp pe_dnewK fun σ H Q ⟨env, ρ, F, s, g, l, k⟩ p hp => by
  refine k (ρ ++ [p]) F _ _ (LE.new hp) (g.new hp ⟨⟨Nat.zero_le _, fun _ h => nomatch h⟩, [], upd_same, rfl⟩) ?_
  simp only [Den]
  exact ⟨p, rfl, by rw [← g.len, List.getElem?_append_right (Nat.le_refl _), Nat.sub_self]; rfl⟩
theorem es_dnewT : ES J X W (.Dict [] [] pos) eDnewT := PE.imp pe_dnewT fun σ H Q ⟨env, ρ, F, s, g, l, k⟩ p hp => by
  refine k (ρ ++ [p]) F _ _ (LE.new hp) (g.new hp ⟨⟨Nat.zero_le _, fun _ h => nomatch h⟩, [], upd_same, rfl⟩) ?_
  simp only [Den]
  exact ⟨p, rfl, by rw [← g.len, List.getElem?_append_right (Nat.le_refl _), Nat.sub_self]; rfl⟩
def dDget (x y : Dt) (s : Sto) : Out Dt := match dgetD s x y with
  | some (some d) => .ok d s
  | _ => .bad
theorem es_dget (hu : X.A.units + 1 < cLine) (ha : ES J X W a fa) (hb : ES J X W b fb) (hs : NoSl b := by exact fun _ _ => rfl) : ES J X W (.Subscript a b pos) (eOp dDget fa fb) :=
  PE.imp (pe_dget hu ha hb hs) fun σ H Q ⟨env, ρ, F, s, g, l, k⟩ => ⟨env, ρ, F, s, g, l, Po.bind k fun x s1 ρ1 F1 H1 v e1 l1 g1 r1 k1 => ⟨env, ρ1, F1, s1, g1, l.mono l1, Po.bind k1 fun y s2 ρ2 F2 H2 u e2 l2 g2 r2 k2 => by
    unfold dDget at k2
    split at k2
    · rename_i d hd
      obtain ⟨ad, r, h1, h2, h3, _⟩ := g2.dget (Den.mono l2 _ _ r1) r2 hd
      rcases h3 with ⟨h3, _⟩ | ⟨d', v', h3, h4, h5⟩
      · cases h3
      · cases h3
        subst h4
        exact ⟨ad, v', h1, h2, k2 ρ2 F2 H2 v' LE.refl g2 h5⟩
    · exact False.elim k2⟩⟩
/-- y in d -/
def dDin (y x : Dt) (s : Sto) : Out Dt := match dgetD s x y with
  | some o => .ok (.bl o.isSome) s
  | none => .bad
def dDnotIn (y x : Dt) (s : Sto) : Out Dt := match dgetD s x y with
  | some o => .ok (.bl (!o.isSome)) s
  | none => .bad
theorem ROD.isSome {Γ : Wd} {ρ : List Addr} {F : Hp} {o : Option Dt} {r : Option V} (h : ROD Γ ρ F o r) : r.isSome = o.isSome := by
  rcases h with ⟨h1, h2⟩ | ⟨d, v, h1, h2, _⟩ <;> rw [h1, h2] <;> rfl
theorem din_of {σ : St} {H : Hp} {Q : VK} (h : tE (wd J X) W (eOp dDin fa fb) σ H Q) : tDIn (tE (wd J X) W fa) (tE (wd J X) W fb) σ H Q := by
  obtain ⟨env, ρ, F, s, g, l, k⟩ := h
  refine ⟨env, ρ, F, s, g, l, Po.bind k fun y s1 ρ1 F1 H1 v e1 l1 g1 r1 k1 => ⟨env, ρ1, F1, s1, g1, l.mono l1, Po.bind k1 fun x s2 ρ2 F2 H2 u e2 l2 g2 r2 k2 => ?_⟩⟩
  unfold dDin at k2
  split at k2
  · rename_i ov hd
    obtain ⟨ad, r, h1, h2, h3, _⟩ := g2.dget r2 (Den.mono l2 _ _ r1) hd
    exact ⟨ad, r, h1, h2, by rw [h3.isSome]; exact k2 ρ2 F2 H2 _ LE.refl g2 (by simp only [Den])⟩
  · exact False.elim k2
theorem dnotin_of {σ : St} {H : Hp} {Q : VK} (h : tE (wd J X) W (eOp dDnotIn fa fb) σ H Q) : tDNotIn (tE (wd J X) W fa) (tE (wd J X) W fb) σ H Q := by
  obtain ⟨env, ρ, F, s, g, l, k⟩ := h
  refine ⟨env, ρ, F, s, g, l, Po.bind k fun y s1 ρ1 F1 H1 v e1 l1 g1 r1 k1 => ⟨env, ρ1, F1, s1, g1, l.mono l1, Po.bind k1 fun x s2 ρ2 F2 H2 u e2 l2 g2 r2 k2 => ?_⟩⟩
  unfold dDnotIn at k2
  split at k2
  · rename_i ov hd
    obtain ⟨ad, r, h1, h2, h3, _⟩ := g2.dget r2 (Den.mono l2 _ _ r1) hd
    exact ⟨ad, r, h1, h2, by rw [h3.isSome]; exact k2 ρ2 F2 H2 _ LE.refl g2 (by simp only [Den])⟩
  · exact False.elim k2
theorem es_din (hu : X.A.units + 1 < cLine) (ha : ES J X W a fa) (hb : ES J X W b fb) (hm : behindInMarks .In b = false := by rfl) : ES J X W (.Compare a [.In] [b] pos) (eOp dDin fa fb) := PE.imp (pe_cmp (pc_din hu ha hb) hm) fun σ H Q h => din_of h
theorem es_dnotIn (hu : X.A.units + 1 < cLine) (ha : ES J X W a fa) (hb : ES J X W b fb) (hm : behindInMarks .NotIn b = false := by rfl) : ES J X W (.Compare a [.NotIn] [b] pos) (eOp dDnotIn fa fb) := PE.imp (pe_cmp (pc_dnotin hu ha hb) hm) fun σ H Q h => dnotin_of h
theorem ts_din (hu : X.A.units + 1 < cLine) (ha : ES J X W a fa) (hb : ES J X W b fb) (hm : behindInMarks .In b = false := by rfl) : TSo J X W (.Compare a [.In] [b] pos) (tBl (eOp dDin fa fb)) := PT.imp (pt_cmp (pc_din hu ha hb) hm) fun σ H Q h => din_of (tT_bl h)
theorem ts_dnotIn (hu : X.A.units + 1 < cLine) (ha : ES J X W a fa) (hb : ES J X W b fb) (hm : behindInMarks .NotIn b = false := by rfl) : TSo J X W (.Compare a [.NotIn] [b] pos) (tBl (eOp dDnotIn fa fb)) := PT.imp (pt_cmp (pc_dnotin hu ha hb) hm) fun σ H Q h => dnotin_of (tT_bl h)
end
end Pd
namespace Pd
open PySem L2
section
variable {J : Cn} {X : Cx} {W : WX} {a b c e e2 o tgt iter elt : Expr} {es ifs : List Expr} {fa fb fc fe fo fi fv fx : Ex} {fs : List Ex} {ft fu : Tx} {pos p p2 apos cpos tpos : Pos} {st : Stmt} {rest : List Stmt} {f1 f2 : Sx}
/-! ### d[k] = v -/
def dputD (s : Sto) (x y v : Dt) : Option Sto := match x with
  | .obj i => match s[i]? with
    | some (.dic kvs) => (keyD y).bind fun k => if kvs.length < sizeLine then some (s.set i (.dic (putA kvs k v))) else none
    | some (.dit kvs) => (keysD y).bind fun k => if kvs.length < sizeLine then some (s.set i (.dit (putA kvs k v))) else none
    | _ => none
  | _ => none
theorem G.dput {Γ : Wd} {ρ : List Addr} {F H : Hp} {s s' : Sto} (g : G Γ ρ F s H) {x y v : Dt} {u w z : V} (rx : Den Γ ρ F x u) (ry : Den Γ ρ F y w) (rv : Den Γ ρ F v z) (e : dputD s x y v = some s') :
    ∃ a H', u = .ref a ∧ DPut H a w z H' ∧ G Γ ρ F s' H' ∧ LE ρ F H ρ F H' := by
  cases x with
  | obj i =>
    simp only [Den] at rx
    obtain ⟨a, e1, q⟩ := rx
    simp only [dputD] at e
    split at e
    · rename_i kvs hs
      obtain ⟨⟨z1, z2⟩, vs, hx, t⟩ := g.at_ i a _ q hs
      obtain ⟨k, h1, h2⟩ := Option.bind_eq_some_iff.mp e
      split at h2
      · rename_i hl
        cases h2
        obtain ⟨a1, a2⟩ := ry.key h1
        subst a1
        have hlen : vs.length = kvs.length := t.length.symm
        refine ⟨a, _, e1, .inl ⟨vs, k, hx, rfl, by rw [hlen]; exact hl, rfl⟩, g.put q (fun od u e => by rw [hx] at e; cases e) ⟨⟨?_, putA_keys (P := fun k : Key => kOk k = true) z2 a2⟩, _, upd_same, DenK.put rv k t⟩, LE.put (List.mem_of_getElem? q)⟩
        have := length_putA kvs k v
        omega
      · cases h2
    · rename_i kvs hs
      obtain ⟨⟨z1, z2⟩, vs, hx, t⟩ := g.at_ i a _ q hs
      obtain ⟨k, h1, h2⟩ := Option.bind_eq_some_iff.mp e
      split at h2
      · rename_i hl
        cases h2
        obtain ⟨b, b1, b2, b3⟩ := Den.tupAt g ry h1
        have hlen : vs.length = kvs.length := t.length.symm
        refine ⟨a, _, e1, .inr ⟨vs, k, b, hx, b1, b2, by rw [hlen]; exact hl, rfl⟩, g.put q (fun od u e => by rw [hx] at e; cases e) ⟨⟨?_, putA_keys (P := fun k : List Key => k.all kOk = true) z2 b3⟩, _, upd_same, DenK.put rv k t⟩, LE.put (List.mem_of_getElem? q)⟩
        have := length_putA kvs k v
        omega
      · cases h2
    · cases e
  | _ => simp [dputD] at e
def sDput (fo fi fv : Ex) : Sx := fun env => sBnd (fv env) env fun v => sBnd (fo env) env fun x => sBnd (fi env) env fun y s => match dputD s x y v with
  | some s' => .fl (.nx env) s'
  | none => .bad
theorem ss_dput (hu : X.A.units + 1 < cLine) (ho : ES J X W o fo) (hi : ES J X W e fi) (hv : ES J X W e2 fv) (hs : swapsWith e2 (some (.Subscript o e tpos)) pos.line X.env = pure false := by rfl) : SS J X W (.Assign [.Subscript o e tpos] e2 pos) (sDput fo fi fv) :=
  PS.imp (ps_dput hu ho hi hv hs) fun D σ H ⟨env, ρ, F, s, g, l, k⟩ => ⟨env, ρ, F, s, g, l, FPo.bind k l fun v s1 ρ1 F1 H1 u e1 l1 g1 r1 k1 =>
    ⟨env, ρ1, F1, s1, g1, l.mono l1, FPo.bind k1 (l.mono l1) fun x s2 ρ2 F2 H2 ov e3 l2 g2 r2 k2 =>
      ⟨env, ρ2, F2, s2, g2, l.mono (l1.trans l2), FPo.bind k2 (l.mono (l1.trans l2)) fun y s3 ρ3 F3 H3 iv e4 l3 g3 r3 k3 => by
        cases ep : dputD s3 x y v with
        | none => rw [ep] at k3; exact False.elim k3
        | some s4 =>
          rw [ep] at k3
          obtain ⟨ad, H4, h1, h2, h3, h4⟩ := g3.dput (Den.mono l3 _ _ r2) r3 (Den.mono (l2.trans l3) _ _ r1) ep
          exact ⟨ad, H4, h1, h2, k3 ρ3 F3 H4 σ h4 h3 (l.mono (((l1.trans l2).trans l3).trans h4))⟩⟩⟩⟩
/-! ### d.get(k), d.get(k, x) -/
def isDic (s : Sto) : Dt → Bool
  | .obj i => match s[i]? with
    | some (.dic _) => true
    | some (.dit _) => true
    | some (.dicL _) => true
    | some (.ditL _) => true
    | _ => false
  | _ => false
theorem G.isD {Γ : Wd} {ρ : List Addr} {F H : Hp} {s : Sto} (g : G Γ ρ F s H) {d : Dt} {v : V} (r : Den Γ ρ F d v) (h : isDic s d = true) : ∃ a, v = .ref a ∧ IsD H a := by
  cases d with
  | obj i =>
    simp only [Den] at r
    obtain ⟨a, e1, q⟩ := r
    simp only [isDic] at h
    refine ⟨a, e1, ?_⟩
    split at h
    · rename_i kvs hs
      obtain ⟨_, vs, hx, t⟩ := g.at_ i a _ q hs
      exact .inl ⟨vs, .inl hx⟩
    · rename_i kvs hs
      obtain ⟨_, vs, hx, t⟩ := g.at_ i a _ q hs
      exact .inr ⟨vs, .inl hx⟩
    · rename_i kvs hs
      obtain ⟨_, od, vs, hx, t⟩ := g.at_ i a _ q hs
      exact .inl ⟨vs, .inr ⟨od, hx.1⟩⟩
    · rename_i kvs hs
      obtain ⟨_, od, vs, hx, t⟩ := g.at_ i a _ q hs
      exact .inr ⟨vs, .inr ⟨od, hx.1⟩⟩
    · cases h
  | _ => exact Bool.noConfusion h
def eDget2 (fo fe fx : Ex) : Ex := fun env => bnd (fo env) fun x s => if isDic s x = true then bnd (fe env) (fun y => bnd (fx env) fun z s => match dgetD s x y with
  | some o => .ok (o.getD z) s
  | none => .bad) s else .bad
theorem es_dget2 (hu : X.A.units + 1 < cLine) (ho : ES J X W o fo) (he : ES J X W e fe) (hx : ES J X W e2 fx) (m : M2 X o "get" apos e e2 cpos := by exact ⟨rfl, rfl, rfl, rfl⟩) : ES J X W (.Call (.Attribute o "get" apos) [e, e2] [] cpos) (eDget2 fo fe fx) :=
  PE.imp (pe_dget2 hu ho he hx m) fun σ H Q ⟨env, ρ, F, s, g, l, k⟩ => ⟨env, ρ, F, s, g, l, Po.bind k fun x s1 ρ1 F1 H1 v e1 l1 g1 r1 k1 => by
    split at k1
    · rename_i hd
      obtain ⟨ad, h1, h2⟩ := g1.isD r1 hd
      exact ⟨ad, h1, h2, env, ρ1, F1, s1, g1, l.mono l1, Po.bind k1 fun y s2 ρ2 F2 H2 u e2 l2 g2 r2 k2 => ⟨env, ρ2, F2, s2, g2, (l.mono l1).mono l2, Po.bind k2 fun z s3 ρ3 F3 H3 w e3 l3 g3 r3 k3 => by
        split at k3
        · rename_i ov hg
          obtain ⟨ad', r, h3, h4, h5, _⟩ := g3.dget (Den.mono (l2.trans l3) _ _ r1) (Den.mono l3 _ _ r2) hg
          have ea : ad' = ad := by rw [h1] at h3; cases h3; rfl
          subst ea
          refine ⟨r, h4, ?_⟩
          rcases h5 with ⟨c1, c2⟩ | ⟨d, v', c1, c2, c3⟩
          · subst c1; subst c2; exact k3 ρ3 F3 H3 w LE.refl g3 r3
          · subst c1; subst c2; exact k3 ρ3 F3 H3 v' LE.refl g3 c3
        · exact False.elim k3⟩⟩
    · exact False.elim k1⟩
/-! ### d.pop(k), d.pop(k, x) -/
theorem KT_without {H : Hp} (k : List L2.Key) {kvs : List (List L2.Key × V)} {xs : List (List L2.Key × Addr × Value)} (h : KT H kvs xs) : KT H (dropK kvs k) (withoutH xs k) := L2.DX.KT_drop k h
/-- what pop does to the heap: o is what was there -/
def DPop (H : Hp) (a : Addr) (y : V) (o : Option V) (H' : Hp) : Prop :=
  (∃ kvs k, H a = some (.dK kvs) ∧ y = kV k ∧ valV kvs k = o ∧ ((o = none ∧ H' = H) ∨ (o.isSome = true ∧ H' = upd H a (.dK (dropK kvs k))))) ∨
  (∃ kvs k b, H a = some (.dT kvs) ∧ y = .ref b ∧ H b = some (.tup (k.map kV)) ∧ valV kvs k = o ∧ ((o = none ∧ H' = H) ∨ (o.isSome = true ∧ H' = upd H a (.dT (dropK kvs k)))))
theorem d_popA {pins : List (Addr × Obj)} {σ : St} {H H' : Hp} {s : Shared} {a : Addr} {u : Value} {A : Around} {E : Value → Shared → Prop} {y v : V} {more : List Value} {Q : Value → Shared → Prop} (hu : A.units + 1 < cLine) (I : Inv X pins σ H s) (g : DPop H a y (some v) H') (ry : RelV y u) (hm : more = [] ∨ ∃ x, more = [x])
    (h : ∀ w' s', Inv X pins σ H' s' → RelV v w' → Q w' s') : wpAny (model X.prog X.w) A (call (.builtin "dict.pop") (.ref a :: u :: more)) Q E s := by
  rcases g with ⟨kvs, k, e, ey, l, ⟨c, _⟩ | ⟨_, c⟩⟩ | ⟨kvs, k, b, e, ey, eb, l, ⟨c, _⟩ | ⟨_, c⟩⟩
  · cases c
  · subst ey; subst c
    exact d_pop I e ry l hm h
  · cases c
  · subst ey; subst c
    cases (show u = Value.ref b from ry)
    obtain ⟨z, hd, xs, rel, dd⟩ := dt_of I.hok e
    have hz : xs.length ≤ sizeLine := by rw [← Paired.length rel]; exact z
    have r := rel.val k
    rw [l] at r
    cases ea : atKey xs k with
    | none =>
      rw [ea] at r
      exact (show False from r).elim
    | some p =>
      rw [ea] at r
      have ha : argsOk "dict.pop" ⟨.ref a :: .ref b :: more, []⟩ := by
        rcases hm with q | ⟨x, q⟩
        · subst q; exact PySem.F.args_dict_pop_2 _ _
        · subst q; exact PySem.F.args_dict_pop_3 _ _ _
      refine call_pop_heap hm ha (tupleKind_room_in1 hu) (key_of I.hok eb) hd dd ea (fun h' dd' hs => ?_) hz
      obtain ⟨q, es, ep, hq, h2, h3, h4, _, h5⟩ := dd'
      refine h _ _ (d_write I (by rw [e]; exact True.intro) hs ⟨q, hq⟩ ⟨Nat.le_trans (dropK_le kvs k) z, hd, _, (KT_without k rel).keeps fun c ys ec => ?_, q, es, ep, hq, h2, h3, h4, h5⟩) r
      rw [upd_ne (ne_of ec e (fun z => nomatch z))]
      exact ec
theorem d_popN {pins : List (Addr × Obj)} {σ : St} {H H' : Hp} {s : Shared} {a : Addr} {u r : Value} {A : Around} {E : Value → Shared → Prop} {y : V} {Q : Value → Shared → Prop} (hu : A.units + 1 < cLine) (I : Inv X pins σ H s) (g : DPop H a y none H') (ry : RelV y u)
    (h : ∀ s', Inv X pins σ H' s' → Q r s') : wpAny (model X.prog X.w) A (call (.builtin "dict.pop") [.ref a, u, r]) Q E s := by
  rcases g with ⟨kvs, k, e, ey, l, ⟨_, c⟩ | ⟨c, _⟩⟩ | ⟨kvs, k, b, e, ey, eb, l, ⟨_, c⟩ | ⟨c, _⟩⟩
  · subst ey; subst c
    exact d_popD I e ry l h
  · cases c
  · subst ey; subst c
    cases (show u = Value.ref b from ry)
    obtain ⟨z, hd, xs, rel, dd⟩ := dt_of I.hok e
    have hz : xs.length ≤ sizeLine := by rw [← Paired.length rel]; exact z
    have r := rel.val k
    rw [l] at r
    cases ea : atKey xs k with
    | some p =>
      rw [ea] at r
      exact (show False from r).elim
    | none => exact call_pop_default_heap (tupleKind_room_in1 hu) (key_of I.hok eb) hd dd ea (fun tk => h _ (I.tok _)) hz
  · cases c
def tDPopA1 (td ty : TE) : TE := fun σ H Q => td σ H fun x H1 => ∃ a, x = .ref a ∧ IsD H1 a ∧ ty σ H1 fun y H2 => ∃ v H', DPop H2 a y (some v) H' ∧ Q v H'
def tDPopA2 (td ty tx : TE) : TE := fun σ H Q => td σ H fun x H1 => ∃ a, x = .ref a ∧ IsD H1 a ∧ ty σ H1 fun y H2 => tx σ H2 fun z H3 => ∃ ov H', DPop H3 a y ov H' ∧ Q (ov.getD z) H'
theorem pe_dpopA1 {td ty : TE} (hu : X.A.units + 1 < cLine) (ho : PE X o td) (he : PE X e ty) (m : M1 X o "pop" apos e cpos) : PE X (.Call (.Attribute o "pop" apos) [e] [] cpos) (tDPopA1 td ty) := by
  refine ⟨fun pins s σ H Q I h => ?_⟩
  refine wpAny_Call_method m.base m.few m.line PySem.F.plainAttrs_dict PySem.F.slot_dict_pop PySem.F.type_dict_pop (thn (ho.run pins s σ H _ I h) fun u s1 ⟨x, H1, I1, rx, a, ex, d, q1⟩ => ?_)
  subst ex
  obtain rfl : u = Value.ref a := rx
  obtain ⟨t1, t2, _⟩ := isD_at I1 d
  refine ⟨t1, t2, ?_⟩
  rw [m.trees]
  refine Calls.callWith_builtin rfl (Calls.evalArgs_plain (Calls.spliced_cons (thn (he.run pins s1 σ H1 _ I1 q1) fun iv s2 ⟨y, H2, I2, ry, v, H', g, q2⟩ => Calls.spliced_nil ?_)))
  exact d_popA hu I2 g ry (.inl rfl) fun w' s3 I3 rw' => ⟨v, _, I3, rw', q2⟩
theorem pe_dpopA2 {f : Expr} {td ty tx : TE} (hu : X.A.units + 1 < cLine) (ho : PE X o td) (he : PE X e ty) (hf : PE X f tx) (m : M2 X o "pop" apos e f cpos) : PE X (.Call (.Attribute o "pop" apos) [e, f] [] cpos) (tDPopA2 td ty tx) := by
  refine ⟨fun pins s σ H Q I h => ?_⟩
  refine wpAny_Call_method m.base m.few m.line PySem.F.plainAttrs_dict PySem.F.slot_dict_pop PySem.F.type_dict_pop (thn (ho.run pins s σ H _ I h) fun u s1 ⟨x, H1, I1, rx, a, ex, d, q1⟩ => ?_)
  subst ex
  obtain rfl : u = Value.ref a := rx
  obtain ⟨t1, t2, _⟩ := isD_at I1 d
  refine ⟨t1, t2, ?_⟩
  rw [m.trees]
  refine Calls.callWith_builtin rfl (Calls.evalArgs_plain (Calls.spliced_cons (thn (he.run pins s1 σ H1 _ I1 q1) fun iv s2 ⟨y, H2, I2, ry, q2⟩ =>
    Calls.spliced_cons (thn (hf.run pins s2 σ H2 _ I2 q2) fun fv s3 ⟨z, H3, I3, rz, ov, H', g, q3⟩ => Calls.spliced_nil ?_))))
  cases ov with
  | some v => exact d_popA hu I3 g ry (.inr ⟨fv, rfl⟩) fun w' s4 I4 rw' => ⟨v, _, I4, rw', q3⟩
  | none => exact d_popN hu I3 g ry fun s4 I4 => ⟨z, H', I4, rz, q3⟩
def dpopD (s : Sto) (x y : Dt) : Option (Dt × Sto) := match x with
  | .obj i => match s[i]? with
    | some (.dic kvs) => (keyD y).bind fun k => (valA kvs k).map fun d => (d, s.set i (.dic (dropA kvs k)))
    | some (.dit kvs) => (keysD y).bind fun k => (valA kvs k).map fun d => (d, s.set i (.dit (dropA kvs k)))
    | _ => none
  | _ => none
theorem G.dpop {Γ : Wd} {ρ : List Addr} {F H : Hp} {s s' : Sto} (g : G Γ ρ F s H) {x y d : Dt} {v u : V} (rx : Den Γ ρ F x v) (ry : Den Γ ρ F y u) (e : dpopD s x y = some (d, s')) : ∃ a r H', v = .ref a ∧ DPop H a u (some r) H' ∧ Den Γ ρ F d r ∧ G Γ ρ F s' H' ∧ LE ρ F H ρ F H' := by
  cases x with
  | obj i =>
    simp only [dpopD] at e
    simp only [Den] at rx
    obtain ⟨a', c1, q⟩ := rx
    split at e
    · rename_i kvs hs
      obtain ⟨⟨z1, z2⟩, vs, hx, t⟩ := g.at_ i a' _ q hs
      obtain ⟨kk, c2, c3⟩ := Option.bind_eq_some_iff.mp e
      obtain ⟨dd, c4, c5⟩ := Option.map_eq_some_iff.mp c3
      cases c5
      obtain ⟨c6, c7⟩ := ry.key c2
      subst c6
      rcases t.val kk with ⟨c8, _⟩ | ⟨d', v', c8, c9, c10⟩
      · rw [c8] at c4; cases c4
      · rw [c8] at c4
        cases c4
        exact ⟨a', v', _, c1, .inl ⟨vs, kk, hx, rfl, c9, .inr ⟨rfl, rfl⟩⟩, c10, g.put q (fun od u e => by rw [hx] at e; cases e) ⟨⟨Nat.le_trans (List.length_filter_le _ _) z1, fun kv hkv => z2 kv (List.mem_filter.mp hkv).1⟩, _, upd_same, t.drop kk⟩, LE.put (List.mem_of_getElem? q)⟩
    · rename_i kvs hs
      obtain ⟨⟨z1, z2⟩, vs, hx, t⟩ := g.at_ i a' _ q hs
      obtain ⟨kk, c2, c3⟩ := Option.bind_eq_some_iff.mp e
      obtain ⟨dd, c4, c5⟩ := Option.map_eq_some_iff.mp c3
      cases c5
      obtain ⟨b, b1, b2, b3⟩ := Den.tupAt g ry c2
      rcases t.val kk with ⟨c8, _⟩ | ⟨d', v', c8, c9, c10⟩
      · rw [c8] at c4; cases c4
      · rw [c8] at c4
        cases c4
        exact ⟨a', v', _, c1, .inr ⟨vs, kk, b, hx, b1, b2, c9, .inr ⟨rfl, rfl⟩⟩, c10, g.put q (fun od u e => by rw [hx] at e; cases e) ⟨⟨Nat.le_trans (List.length_filter_le _ _) z1, fun kv hkv => z2 kv (List.mem_filter.mp hkv).1⟩, _, upd_same, t.drop kk⟩, LE.put (List.mem_of_getElem? q)⟩
    · cases e
  | _ => simp [dpopD] at e
def eDpop1 (fo fe : Ex) : Ex := fun env => bnd (fo env) fun x s => if isDic s x = true then bnd (fe env) (fun y s => match dpopD s x y with
  | some (d, s') => .ok d s'
  | none => .bad) s else .bad
theorem es_dpop1 (hu : X.A.units + 1 < cLine) (ho : ES J X W o fo) (he : ES J X W e fe) (m : M1 X o "pop" apos e cpos := by exact ⟨rfl, rfl, rfl, rfl⟩) : ES J X W (.Call (.Attribute o "pop" apos) [e] [] cpos) (eDpop1 fo fe) :=
  PE.imp (pe_dpopA1 hu ho he m) fun σ H Q ⟨env, ρ, F, s, g, l, k⟩ => ⟨env, ρ, F, s, g, l, Po.bind k fun x s1 ρ1 F1 H1 v e1 l1 g1 r1 k1 => by
    split at k1
    · rename_i hd
      obtain ⟨ad, h1, h2⟩ := g1.isD r1 hd
      exact ⟨ad, h1, h2, env, ρ1, F1, s1, g1, l.mono l1, Po.bind k1 fun y s2 ρ2 F2 H2 u e2 l2 g2 r2 k2 => by
        split at k2
        · rename_i d s' hg
          obtain ⟨a', r, H', c1, c2, c3, c4, c5⟩ := g2.dpop (Den.mono l2 _ _ r1) r2 hg
          have ea : a' = ad := by rw [h1] at c1; cases c1; rfl
          subst ea
          exact ⟨r, H', c2, k2 ρ2 F2 H' r c5 c4 c3⟩
        · exact False.elim k2⟩
    · exact False.elim k1⟩
/-- d.pop(k, x) -/
def dpopO (s : Sto) (x y z : Dt) : Option (Dt × Sto) := (dgetD s x y).bind fun o => match o with
  | some _ => dpopD s x y
  | none => some (z, s)
def unlk (s : Sto) : Dt → Bool
  | .obj i => match s[i]? with
    | some (.dic _) => true
    | some (.dit _) => true
    | _ => false
  | _ => false
def eDpop2 (fo fe fx : Ex) : Ex := fun env => bnd (fo env) fun x s => if isDic s x = true then bnd (fe env) (fun y => bnd (fx env) fun z s => if unlk s x = true then match dpopO s x y z with
  | some (d, s') => .ok d s'
  | none => .bad else .bad) s else .bad
theorem G.dpopN {Γ : Wd} {ρ : List Addr} {F H : Hp} {s : Sto} (g : G Γ ρ F s H) {x y : Dt} {v u : V} (rx : Den Γ ρ F x v) (ry : Den Γ ρ F y u) (hu : unlk s x = true) (e : dgetD s x y = some none) : ∃ a, v = .ref a ∧ DPop H a u none H := by
  cases x with
  | obj i =>
    simp only [dgetD] at e
    simp only [unlk] at hu
    simp only [Den] at rx
    obtain ⟨a', c1, q⟩ := rx
    split at hu
    · rename_i kvs hs
      rw [hs] at e
      obtain ⟨_, vs, hx, t⟩ := g.at_ i a' _ q hs
      obtain ⟨kk, c2, c3⟩ := Option.map_eq_some_iff.mp e
      obtain ⟨c6, c7⟩ := ry.key c2
      subst c6
      rcases t.val kk with ⟨_, c8⟩ | ⟨d', v', c8, c9, c10⟩
      · exact ⟨a', c1, .inl ⟨vs, kk, hx, rfl, c8, .inl ⟨rfl, rfl⟩⟩⟩
      · rw [c8] at c3; cases c3
    · rename_i kvs hs
      rw [hs] at e
      obtain ⟨_, vs, hx, t⟩ := g.at_ i a' _ q hs
      obtain ⟨kk, c2, c3⟩ := Option.map_eq_some_iff.mp e
      obtain ⟨b, b1, b2, b3⟩ := Den.tupAt g ry c2
      rcases t.val kk with ⟨_, c8⟩ | ⟨d', v', c8, c9, c10⟩
      · exact ⟨a', c1, .inr ⟨vs, kk, b, hx, b1, b2, c8, .inl ⟨rfl, rfl⟩⟩⟩
      · rw [c8] at c3; cases c3
    · cases hu
  | _ => simp [dgetD] at e
theorem es_dpop2 (hu : X.A.units + 1 < cLine) (ho : ES J X W o fo) (he : ES J X W e fe) (hx : ES J X W e2 fx) (m : M2 X o "pop" apos e e2 cpos := by exact ⟨rfl, rfl, rfl, rfl⟩) : ES J X W (.Call (.Attribute o "pop" apos) [e, e2] [] cpos) (eDpop2 fo fe fx) :=
  PE.imp (pe_dpopA2 hu ho he hx m) fun σ H Q ⟨env, ρ, F, s, g, l, k⟩ => ⟨env, ρ, F, s, g, l, Po.bind k fun x s1 ρ1 F1 H1 v e1 l1 g1 r1 k1 => by
    split at k1
    · rename_i hd
      obtain ⟨ad, h1, h2⟩ := g1.isD r1 hd
      exact ⟨ad, h1, h2, env, ρ1, F1, s1, g1, l.mono l1, Po.bind k1 fun y s2 ρ2 F2 H2 u e2 l2 g2 r2 k2 => ⟨env, ρ2, F2, s2, g2, (l.mono l1).mono l2, Po.bind k2 fun z s3 ρ3 F3 H3 w e3 l3 g3 r3 k3 => by
        split at k3
        · rename_i hk
          split at k3
          · rename_i d s' hg
            obtain ⟨oo, g4, g5⟩ := Option.bind_eq_some_iff.mp hg
            cases oo with
            | some d0 =>
              obtain ⟨a', r, H', c1, c2, c3, c4, c5⟩ := g3.dpop (Den.mono (l2.trans l3) _ _ r1) (Den.mono l3 _ _ r2) g5
              have ea : a' = ad := by rw [h1] at c1; cases c1; rfl
              subst ea
              exact ⟨some r, H', c2, k3 ρ3 F3 H' r c5 c4 c3⟩
            | none =>
              cases g5
              obtain ⟨a', c1, c2⟩ := g3.dpopN (Den.mono (l2.trans l3) _ _ r1) (Den.mono l3 _ _ r2) hk g4
              have ea : a' = ad := by rw [h1] at c1; cases c1; rfl
              subst ea
              exact ⟨none, H3, c2, k3 ρ3 F3 H3 w LE.refl g3 r3⟩
          · exact False.elim k3
        · exact False.elim k3⟩⟩
    · exact False.elim k1⟩
end
end Pd
namespace Pd
open PySem L2
/-! ### a dict is locked, and freed again -/
def cutH (F : Hp) (d : Addr) : Hp := fun a => if a = d then none else F a
theorem cut_ne {F : Hp} {d a : Addr} (h : a ≠ d) : cutH F d a = F a := if_neg h
theorem cut_same {F : Hp} {d : Addr} : cutH F d d = none := if_pos rfl
/-- what a locked thing may be -/
def isDk : HO → Bool
  | .dK _ => true
  | .dT _ => true
  | _ => false
section
variable {Γ : Wd} {ρ : List Addr} {F : Hp} {d : Addr} {od : Obj} {u : HO}
theorem cut_some (hd : F d = some (.frz od u)) {a : Addr} {o : HO} (h : F a = some o) (n : ∀ od u, o ≠ .frz od u) : cutH F d a = some o := by
  rw [cut_ne (fun e => by rw [e, hd] at h; cases h; exact n od u rfl)]
  exact h
theorem sqL_cut (hd : F d = some (.frz od u)) (hu : isDk u = true) {K : PySem.W.Frag} {a : Addr} {xs : List V} (h : SqL K F a xs) : SqL K (cutH F d) a xs := by
  rcases h with (h | ⟨o, h⟩) | h
  · exact .inl (.inl (cut_some hd h fun _ _ e => by cases e))
  · refine .inl (.inr ⟨o, ?_⟩)
    rw [cut_ne (fun e => by rw [e, hd] at h; cases h; cases hu)]
    exact h
  · exact .inr h
mutual
theorem Den.cutF (hd : F d = some (.frz od u)) (hu : isDk u = true) : ∀ (x : Dt) (v : V), Den Γ ρ F x v → Den Γ ρ (cutH F d) x v
  | .non, v, h => by simpa only [Den] using h
  | .bl b, v, h => by simpa only [Den] using h
  | .int i, v, h => by simpa only [Den] using h
  | .str x, v, h => by simpa only [Den] using h
  | .tup ds, v, h => by
    simp only [Den] at h ⊢
    obtain ⟨z, a, xs, e, q, r⟩ := h
    exact ⟨z, a, xs, e, cut_some hd q (fun _ _ e => by cases e), Dens.cutF hd hu ds xs r⟩
  | .lst ds, v, h => by
    simp only [Den] at h ⊢
    obtain ⟨z, a, xs, e, q, r⟩ := h
    exact ⟨z, a, xs, e, cut_some hd q (fun _ _ e => by cases e), Dens.cutF hd hu ds xs r⟩
  | .lsk ds, v, h => by
    simp only [Den] at h ⊢
    obtain ⟨z, a, xs, e, q, r⟩ := h
    exact ⟨z, a, xs, e, sqL_cut hd hu q, Dens.cutF hd hu ds xs r⟩
  | .obj i, v, h => by simpa only [Den] using h
  | .exc c, v, h => by
    simp only [Den] at h ⊢
    obtain ⟨a, C, e, q, r⟩ := h
    exact ⟨a, C, e, q, cut_some hd r (fun _ _ e => by unfold ExH at e; cases e)⟩
theorem Dens.cutF (hd : F d = some (.frz od u)) (hu : isDk u = true) : ∀ (ds : List Dt) (vs : List V), Dens Γ ρ F ds vs → Dens Γ ρ (cutH F d) ds vs
  | [], vs, h => by simpa only [Dens] using h
  | x :: ds, vs, h => by
    simp only [Dens] at h ⊢
    obtain ⟨v, r, e, q, t⟩ := h
    exact ⟨v, r, e, Den.cutF hd hu x v q, Dens.cutF hd hu ds r t⟩
end
theorem DenK.cutF {κ : Type} (hd : F d = some (.frz od u)) (hu : isDk u = true) : ∀ {ds : List (κ × Dt)} {vs : List (κ × V)}, DenK Γ ρ F ds vs → DenK Γ ρ (cutH F d) ds vs
  | [], vs, h => h
  | (f, x) :: ds, vs, h => by
    obtain ⟨v, r, e, q, t⟩ := h
    exact ⟨v, r, e, Den.cutF hd hu x v q, DenK.cutF hd hu t⟩
theorem MoOk.cutF (hd : F d = some (.frz od u)) (hu : isDk u = true) {H H1 : Hp} {a : Addr} (na : a ≠ d) (e : H1 a = H a) : ∀ {mo : Mo}, MoOk Γ ρ F H a mo → MoOk Γ ρ (cutH F d) H1 a mo
  | .lst ds, ⟨z, xs, h, q⟩ => ⟨z, xs, by rw [e]; exact h, Dens.cutF hd hu _ _ q⟩
  | .ins c fs, ⟨C, dx, vs, g, h, q, z⟩ => ⟨C, dx, vs, g, by rw [e]; exact h, Dens.cutF hd hu _ _ q, z⟩
  | .dic kvs, ⟨z, vs, h, q⟩ => ⟨z, vs, by rw [e]; exact h, DenK.cutF hd hu q⟩
  | .dit kvs, ⟨z, vs, h, q⟩ => ⟨z, vs, by rw [e]; exact h, DenK.cutF hd hu q⟩
  | .dicL kvs, ⟨z, o, vs, h, q⟩ => ⟨z, o, vs, ⟨by rw [e]; exact h.1, by rw [cut_ne na]; exact h.2⟩, DenK.cutF hd hu q⟩
  | .ditL kvs, ⟨z, o, vs, h, q⟩ => ⟨z, o, vs, ⟨by rw [e]; exact h.1, by rw [cut_ne na]; exact h.2⟩, DenK.cutF hd hu q⟩
end
/-- a dict, locked; a locked one, free -/
def lockM : Mo → Option Mo
  | .dic kvs => some (.dicL kvs)
  | .dit kvs => some (.ditL kvs)
  | _ => none
section
variable {Γ : Wd} {ρ : List Addr} {F H : Hp} {s : Sto}
theorem G.lock (g : G Γ ρ F s H) {i : Nat} {d : Addr} {mo mo' : Mo} (hi : ρ[i]? = some d) (hs : s[i]? = some mo) (hm : lockM mo = some mo') : ∃ u, H d = some u ∧ Mut (some u) ∧ isDk u = true ∧ F d = none ∧ ∀ od, G Γ ρ (upd F d (.frz od u)) (s.set i mo') (upd H d (.frz od u)) := by
  have gen : ∀ u, H d = some u → isDk u = true → (∀ od, F d = none → MoOk Γ ρ (upd F d (.frz od u)) (upd H d (.frz od u)) d mo') → ∃ u, H d = some u ∧ Mut (some u) ∧ isDk u = true ∧ F d = none ∧ ∀ od, G Γ ρ (upd F d (.frz od u)) (s.set i mo') (upd H d (.frz od u)) := fun u hu hk hmo => by
    have hF : F d = none := g.free (List.mem_of_getElem? hi) fun od v e => by rw [hu] at e; cases e; cases hk
    have mu : Mut (some u) := by
      cases u with
      | dK _ => exact True.intro
      | dT _ => exact True.intro
      | _ => cases hk
    refine ⟨u, hu, mu, hk, hF, fun od => ⟨fun a o h => ?_, by rw [List.length_set]; exact g.len, g.nd, fun a h => ?_, fun j b m h1 h2 => ?_⟩⟩
    · by_cases e : a = d
      · subst e; rw [upd_same] at h ⊢; exact h
      · rw [upd_ne e] at h ⊢; exact g.sub _ _ h
    · by_cases e : a = d
      · subst e; exact .inr ⟨od, u, upd_same⟩
      · rw [upd_ne e]; exact g.sep a h
    · by_cases hj : i = j
      · subst hj
        have e : d = b := Option.some.inj (hi.symm.trans h1)
        subst e
        rw [List.getElem?_set_self (List.getElem?_eq_some_iff.mp hs).1] at h2
        cases h2
        exact hmo od hF
      · rw [List.getElem?_set_ne hj] at h2
        exact (g.at_ j b m h1 h2).mono (LD.upd hF) (upd_ne fun z => hj (by subst z; exact nd_ix g.nd hi h1))
  cases mo with
  | dic kvs =>
    cases hm
    obtain ⟨z, vs, h, t⟩ := g.at_ i d _ hi hs
    exact gen (.dK vs) h rfl fun od hF => ⟨z, od, vs, ⟨upd_same, upd_same⟩, DenK.monoD (LD.upd hF) t⟩
  | dit kvs =>
    cases hm
    obtain ⟨z, vs, h, t⟩ := g.at_ i d _ hi hs
    exact gen (.dT vs) h rfl fun od hF => ⟨z, od, vs, ⟨upd_same, upd_same⟩, DenK.monoD (LD.upd hF) t⟩
  | _ => cases hm
theorem G.unlock (g : G Γ ρ F s H) {i : Nat} {d : Addr} {mo mo' : Mo} {od : Obj} {u : HO} (hi : ρ[i]? = some d) (hs : s[i]? = some mo') (hm : lockM mo = some mo') (hF : F d = some (.frz od u)) (hu : isDk u = true) :
    H d = some (.frz od u) ∧ G Γ ρ (cutH F d) (s.set i mo) (upd H d u) := by
  have hH : H d = some (.frz od u) := g.sub _ _ hF
  refine ⟨hH, fun a o h => ?_, by rw [List.length_set]; exact g.len, g.nd, fun a h => ?_, fun j b m h1 h2 => ?_⟩
  · by_cases e : a = d
    · subst e; rw [cut_same] at h; cases h
    · rw [cut_ne e] at h; rw [upd_ne e]; exact g.sub _ _ h
  · by_cases e : a = d
    · subst e; exact .inl cut_same
    · rw [cut_ne e]; exact g.sep a h
  · by_cases hj : i = j
    · subst hj
      have e : d = b := Option.some.inj (hi.symm.trans h1)
      subst e
      rw [List.getElem?_set_self (List.getElem?_eq_some_iff.mp hs).1] at h2
      cases h2
      have ok := g.at_ i d _ hi hs
      cases mo with
      | dic kvs =>
        cases hm
        obtain ⟨z, o2, vs, h, t⟩ := ok
        have e := hF.symm.trans h.2
        cases e
        exact ⟨z, vs, upd_same, DenK.cutF hF hu t⟩
      | dit kvs =>
        cases hm
        obtain ⟨z, o2, vs, h, t⟩ := ok
        have e := hF.symm.trans h.2
        cases e
        exact ⟨z, vs, upd_same, DenK.cutF hF hu t⟩
      | _ => cases hm
    · rw [List.getElem?_set_ne hj] at h2
      have nb : b ≠ d := fun z => hj (by subst z; exact nd_ix g.nd hi h1)
      exact MoOk.cutF hF hu nb (upd_ne nb) (g.at_ j b m h1 h2)
/-- from before the lock to behind it -/
theorem LE.locked {ρ' : List Addr} {F' H' : Hp} {d : Addr} {od : Obj} {u : HO} (hd : d ∈ ρ) (hF : F d = none) (hH : H d = some u) (l : LE ρ (upd F d (.frz od u)) (upd H d (.frz od u)) ρ' F' H') : LE ρ F H ρ' (cutH F' d) (upd H' d u) where
  ld := ⟨l.ld.pre, fun a o h => by
    have n : a ≠ d := fun e => by rw [e, hF] at h; cases h
    rw [cut_ne n]
    exact l.ld.sub a o (by rw [upd_ne n]; exact h)⟩
  fr := fun a h => by
    rcases l.fr a h with h | h
    · exact .inl h
    · by_cases e : a = d
      · subst e; rw [upd_same] at h; cases h
      · rw [upd_ne e] at h; exact .inr h
  ff := fun a o h => by
    by_cases e : a = d
    · subst e; rw [cut_same] at h; cases h
    · rw [cut_ne e] at h
      rcases l.ff a o h with ⟨v, h⟩ | h | ⟨n, xs, h⟩
      · rw [upd_ne e] at h; exact .inl ⟨v, h⟩
      · rw [upd_ne e] at h; exact .inr (.inl h)
      · rw [upd_ne e] at h; exact .inr (.inr ⟨n, xs, h⟩)
  keep := fun a o h n => by
    have e : a ≠ d := fun e => n (by rw [e]; exact hd)
    rw [upd_ne e]
    exact l.keep a o (by rw [upd_ne e]; exact h) n
  there := fun a o h => by
    by_cases e : a = d
    · subst e; exact ⟨u, upd_same⟩
    · obtain ⟨w, q⟩ := l.there a o (by rw [upd_ne e]; exact h)
      exact ⟨w, by rw [upd_ne e]; exact q⟩
end
open Classical in
noncomputable def unlockR (i : Nat) (mo mo' : Mo) : Res → Res
  | .fl f s => if s[i]? = some mo' then .fl f (s.set i mo) else .bad
  | _ => .bad
open Classical in
noncomputable def unlockO (i : Nat) (mo mo' : Mo) : Out Dt → Out Dt
  | .ok d s => if s[i]? = some mo' then .ok d (s.set i mo) else .bad
  | _ => .bad
/-- the dict that fo tells is locked while f runs -/
noncomputable def sLock (fo : Ex) (f : Sx) : Sx := fun env s => match fo env s with
  | .ok (.obj i) _ => match s[i]? with
    | some mo => match lockM mo with
      | some mo' => unlockR i mo mo' (f env (s.set i mo'))
      | none => .bad
    | none => .bad
  | _ => .bad
noncomputable def eLock (fo : Ex) (f : Ex) : Ex := fun env s => match fo env s with
  | .ok (.obj i) _ => match s[i]? with
    | some mo => match lockM mo with
      | some mo' => unlockO i mo mo' (f env (s.set i mo'))
      | none => .bad
    | none => .bad
  | _ => .bad
section
variable {J : Cn} {X : Cx} {W : WX} {e : Expr} {fo fe : Ex} {st : Stmt} {f1 : Sx}
theorem Sl.cutF {Γ : Wd} {ρ : List Addr} {F : Hp} {env : En} {σ : St} {d : Addr} {od : Obj} {u : HO} (h : Sl Γ ρ F env σ) (hd : F d = some (.frz od u)) (hu : isDk u = true) : Sl Γ ρ (cutH F d) env σ :=
  ⟨h.len, fun i x e => by obtain ⟨v, q, r⟩ := h.at_ i x e; exact ⟨v, q, Den.cutF hd hu x v r⟩⟩
theorem lock_at {Γ : Wd} {ρ : List Addr} {F H : Hp} {s : Sto} (g : G Γ ρ F s H) {i : Nat} {mo : Mo} (hs : s[i]? = some mo) : ∃ d, ρ[i]? = some d := by
  have hl : i < ρ.length := by rw [g.len]; exact (List.getElem?_eq_some_iff.mp hs).1
  exact ⟨ρ[i], List.getElem?_eq_getElem hl⟩
theorem ss_lock (fo : Ex) (h : SS J X W st f1) : SS J X W st (sLock fo f1) :=
  PS.imp (ps_lock h) fun D σ H ⟨env, ρ, F, s, g, l, k⟩ => by
    unfold sLock at k
    split at k
    · rename_i i s0 hfo
      split at k
      · rename_i mo hs
        split at k
        · rename_i mo' hm
          obtain ⟨d, hd⟩ := lock_at g hs
          obtain ⟨u, hH, mu, hu, hF, gl⟩ := g.lock hd hs hm
          refine ⟨d, u, hH, mu, fun od => ⟨env, ρ, _, _, gl od, ⟨l.len, fun j x e => by obtain ⟨v, q, r⟩ := l.at_ j x e; exact ⟨v, q, Den.monoD (LD.upd hF) x v r⟩⟩, ?_⟩⟩
          have hdm : d ∈ ρ := List.mem_of_getElem? hd
          cases er : f1 env (s.set i mo') with
          | bad => rw [er] at k; exact k
          | exc c e1 s1 => rw [er] at k; exact False.elim k
          | fl f s1 =>
            rw [er] at k
            simp only [unlockR] at k
            split at k
            · rename_i hs1
              have fin : ∀ {ρ' : List Addr} {F' H' : Hp}, LE ρ (upd F d (.frz od u)) (upd H d (.frz od u)) ρ' F' H' → G (wd J X) ρ' F' s1 H' → H' d = some (.frz od u) ∧ G (wd J X) ρ' (cutH F' d) (s1.set i mo) (upd H' d u) ∧ LE ρ F H ρ' (cutH F' d) (upd H' d u) ∧ F' d = some (.frz od u) := fun {ρ' F' H'} l' g' => by
                have hF' : F' d = some (.frz od u) := l'.ld.sub _ _ upd_same
                obtain ⟨a1, a2⟩ := g'.unlock (l'.ld.get hd) hs1 hm hF' hu
                exact ⟨a1, a2, LE.locked hdm hF hH l', hF'⟩
              cases f with
              | nx e1 => exact fun ρ' F' H' σ' l' g' sl' => by obtain ⟨a1, a2, a3, a4⟩ := fin l' g'; exact ⟨a1, k ρ' _ _ σ' a3 a2 (sl'.cutF a4 hu)⟩
              | rt x => exact fun ρ' F' H' v l' g' r' => by obtain ⟨a1, a2, a3, a4⟩ := fin l' g'; exact ⟨a1, k ρ' _ _ v a3 a2 (Den.cutF a4 hu x v r')⟩
              | bk e1 => exact fun ρ' F' H' σ' l' g' sl' => by obtain ⟨a1, a2, a3, a4⟩ := fin l' g'; exact ⟨a1, k ρ' _ _ σ' a3 a2 (sl'.cutF a4 hu)⟩
              | ct e1 => exact fun ρ' F' H' σ' l' g' sl' => by obtain ⟨a1, a2, a3, a4⟩ := fin l' g'; exact ⟨a1, k ρ' _ _ σ' a3 a2 (sl'.cutF a4 hu)⟩
            · exact False.elim k
        · exact False.elim k
      · exact False.elim k
    · exact False.elim k
theorem es_lock (fo : Ex) (h : ES J X W e fe) : ES J X W e (eLock fo fe) :=
  PE.imp (pe_lock h) fun σ H Q ⟨env, ρ, F, s, g, l, k⟩ => by
    unfold eLock at k
    split at k
    · rename_i i s0 hfo
      split at k
      · rename_i mo hs
        split at k
        · rename_i mo' hm
          obtain ⟨d, hd⟩ := lock_at g hs
          obtain ⟨u, hH, mu, hu, hF, gl⟩ := g.lock hd hs hm
          refine ⟨d, u, hH, mu, fun od => ⟨env, ρ, _, _, gl od, ⟨l.len, fun j x e => by obtain ⟨v, q, r⟩ := l.at_ j x e; exact ⟨v, q, Den.monoD (LD.upd hF) x v r⟩⟩, ?_⟩⟩
          have hdm : d ∈ ρ := List.mem_of_getElem? hd
          cases er : fe env (s.set i mo') with
          | bad => rw [er] at k; exact k
          | exc c s1 => rw [er] at k; exact False.elim k
          | ok x s1 =>
            rw [er] at k
            simp only [unlockO] at k
            split at k
            · rename_i hs1
              exact fun ρ' F' H' v l' g' r' => by
                have hF' : F' d = some (.frz od u) := l'.ld.sub _ _ upd_same
                obtain ⟨a1, a2⟩ := g'.unlock (l'.ld.get hd) hs1 hm hF' hu
                exact ⟨a1, k ρ' _ _ v (LE.locked hdm hF hH l') a2 (Den.cutF hF' hu x v r')⟩
            · exact False.elim k
        · exact False.elim k
      · exact False.elim k
    · exact False.elim k
end
end Pd
namespace Pd
open PySem L2
/-! ### d.keys(), any keys, d locked -/
section
variable {X : Cx} {tg e : Expr} {td : TE} {apos cpos : Pos}
theorem raw_noDict {s : Shared} {d : Addr} {o : Obj} (h : s.heap.get? d = some o) (hx : o.ExactDict) : ∀ x, Value.ref d = .ref x → ∃ o, s.heap.get? x = some o ∧ o.dict = none := fun x e => by
  cases e
  exact ⟨o, h, hx.2.1⟩
theorem pi_keysA (he : PE X e td) (hbase : attributeBase e "keys" X.env (eval e X.env) = eval e X.env := by rfl) (hline : (apos.endLine == cpos.line) = true := by rfl) : PI X tg (.Call (.Attribute e "keys" apos) [] [] cpos) (iKeys td) := by
  refine ⟨fun pins s σ H R I h => ?_⟩
  refine wpAny_Call_method (T := "dict") (id := "dict.keys") hbase rfl hline PySem.F.plainAttrs_dict PySem.F.slot_dict_keys PySem.F.type_dict_keys (thn (he.run pins s σ H _ I h) fun u s1 ⟨x, H1, I1, rx, d, o, ex, q⟩ => ?_)
  subst ex
  obtain rfl : u = Value.ref d := rx
  have I2 : Inv X pins σ H1 { s1 with heap := s1.heap.push { cls := .type "dict_keys", data := .fields #[.ref d] } } := I1.kept (t' := s1.toks) fun b ob q => Heap.get?_push_of_some _ q
  rcases q with ⟨kvs, hd, q⟩ | ⟨kvs, hd, q⟩
  · obtain ⟨hs, hgd, hx, es, ep, vs, hdt, hsz, kv, hm⟩ := I1.frzK hd
    have raw : s1.heap.DictRaw d es ep := ⟨o, hgd, hx, hdt⟩
    refine ⟨raw.typeIs, raw_noDict hgd hx, ?_⟩
    have fin : wpAny (model X.prog X.w) X.A (pyIter (.ref s1.heap.objs.size)) (PIE X pins σ tg R) X.xe { s1 with heap := s1.heap.push { cls := .type "dict_keys", data := .fields #[.ref d] } } := by
      refine PySem.wpAny_pyIter_keys_raw (d := d) (es := es) (ep := ep) ⟨_, Heap.get?_push_size _ rfl, rfl, rfl⟩ (raw.at fun o h => Heap.get?_push_of_some _ h) (pi_one (tk := s1.toks) I2 _ (turn_keys _ hdt) ⟨_, Heap.get?_push_size _ rfl, rfl, ?_⟩ q)
      rw [hsz] <;> rfl
    show wpAny _ _ (callWith cpos (.builtin "dict.keys") [.ref d] [] []) _ X.xe s1
    exact method_meetsIn PySem.F.slot_dict_keys PySem.F.entry_dict_keys rfl (PySem.evalArgs_none ⟨rfl, raw.typeIs, PySem.F.args_dict_keys_1 _, _, PySem.meets_dict_keys_raw d hs, ⟨es, ep, raw⟩, fin⟩)
  · obtain ⟨hs, hgd, hx, es, ep, hdt, hsz, ent⟩ := I1.frzT hd
    have raw : s1.heap.DictRaw d es ep := ⟨o, hgd, hx, hdt⟩
    refine ⟨raw.typeIs, raw_noDict hgd hx, ?_⟩
    have fin : wpAny (model X.prog X.w) X.A (pyIter (.ref s1.heap.objs.size)) (PIE X pins σ tg R) X.xe { s1 with heap := s1.heap.push { cls := .type "dict_keys", data := .fields #[.ref d] } } := by
      refine PySem.wpAny_pyIter_keys_raw (d := d) (es := es) (ep := ep) ⟨_, Heap.get?_push_size _ rfl, rfl, rfl⟩ (raw.at fun o h => Heap.get?_push_of_some _ h) (pi_one (tk := s1.toks) I2 _ (turn_keysT _ hdt) ⟨_, Heap.get?_push_size _ rfl, rfl, ?_⟩ q)
      rw [hsz] <;> rfl
    show wpAny _ _ (callWith cpos (.builtin "dict.keys") [.ref d] [] []) _ X.xe s1
    exact method_meetsIn PySem.F.slot_dict_keys PySem.F.entry_dict_keys rfl (PySem.evalArgs_none ⟨rfl, raw.typeIs, PySem.F.args_dict_keys_1 _, _, PySem.meets_dict_keys_raw d hs, ⟨es, ep, raw⟩, fin⟩)
end
/-! ### the walk by meanings -/
def keyDt : Key → Dt
  | .inl i => .int i
  | .inr x => .str x
def keysDt (k : List Key) : Dt := .tup (k.map keyDt)
section
variable {Γ : Wd} {ρ : List Addr} {F H : Hp} {s : Sto}
theorem Den.ofKey {k : Key} (h : kOk k = true) : Den Γ ρ F (keyDt k) (kV k) := by
  cases k with
  | inl i => simp only [keyDt, Den]; rfl
  | inr x => simp only [keyDt, Den]; exact ⟨rfl, h⟩
theorem Dens.ofKeys : ∀ {ks : List Key}, ks.all kOk = true → Dens Γ ρ F (ks.map keyDt) (ks.map kV)
  | [], _ => by simp only [List.map_nil, Dens]
  | k :: ks, h => by
    simp only [List.all_cons, Bool.and_eq_true] at h
    simp only [List.map_cons, Dens]
    exact ⟨_, _, rfl, Den.ofKey h.1, Dens.ofKeys h.2⟩
theorem DenK.get {κ : Type} : ∀ {kvs : List (κ × Dt)} {vs : List (κ × V)} {i : Nat} {k : κ} {v : V}, DenK Γ ρ F kvs vs → vs[i]? = some (k, v) → ∃ d, kvs[i]? = some (k, d)
  | [], vs, i, k, v, h, e => by simp only [DenK] at h; subst h; simp at e
  | (f, d) :: r, vs, i, k, v, h, e => by
    obtain ⟨w, r', e1, q, t⟩ := h
    subst e1
    cases i with
    | zero => simp at e; exact ⟨d, by simp [e.1]⟩
    | succ i => simp at e; obtain ⟨d', h'⟩ := DenK.get t e; exact ⟨d', by simpa using h'⟩
/-- a tuple that stands in the heap is taken for known -/
theorem G.adopt (g : G Γ ρ F s H) {q : Addr} {xs : List V} (hq : H q = some (.tup xs)) : ∃ F', LE ρ F H ρ F' H ∧ G Γ ρ F' s H ∧ F' q = some (.tup xs) := by
  cases e : F q with
  | some o =>
    have := g.sub _ _ e
    rw [hq] at this
    cases this
    exact ⟨F, LE.refl, g, e⟩
  | none =>
    have nr : q ∉ ρ := fun h => by
      obtain ⟨i, hi, e2⟩ := List.mem_iff_getElem.mp h
      have hs : i < s.length := by rw [← g.len]; exact hi
      have ok := g.at_ i q s[i] (by rw [← e2]; exact List.getElem?_eq_getElem hi) (List.getElem?_eq_getElem hs)
      generalize s[i] = mo at ok
      cases mo with
      | lst l => obtain ⟨_, _, h, _⟩ := ok; rw [hq] at h; cases h
      | ins c fs => obtain ⟨_, _, _, _, h, _⟩ := ok; rw [hq] at h; cases h
      | dic l => obtain ⟨_, _, h, _⟩ := ok; rw [hq] at h; cases h
      | dit l => obtain ⟨_, _, h, _⟩ := ok; rw [hq] at h; cases h
      | dicL l => obtain ⟨_, _, _, h, _⟩ := ok; rw [hq] at h; cases h.1
      | ditL l => obtain ⟨_, _, _, h, _⟩ := ok; rw [hq] at h; cases h.1
    have ld : LD ρ F ρ (upd F q (.tup xs)) := LD.upd e
    refine ⟨upd F q (.tup xs), ⟨ld, fun _ h => .inl h, fun a o h => ?_, fun _ _ h _ => h, fun _ o h => ⟨o, h⟩⟩, ⟨fun a o h => ?_, g.len, g.nd, fun a h => ?_, fun i a mo h1 h2 => (g.at_ i a mo h1 h2).mono ld rfl⟩, upd_same⟩
    · by_cases ea : a = q
      · subst ea; exact .inr (.inr ⟨nr, xs, hq⟩)
      · rw [upd_ne ea] at h; exact .inl ⟨o, h⟩
    · by_cases ea : a = q
      · subst ea; rw [upd_same] at h; cases h; exact hq
      · rw [upd_ne ea] at h; exact g.sub _ _ h
    · rw [upd_ne (fun z => nr (by rw [← z]; exact h))]; exact g.sep a h
theorem its_keys {i : Nat} {d : Addr} {od : Obj} {kvs : List (Key × Dt)} {vs : List (Key × V)} (hi : ρ[i]? = some d) (hF : F d = some (.frz od (.dK vs))) (t : DenK Γ ρ F kvs vs) (hz : kvs.length ≤ sizeLine) (hk : ∀ kv ∈ kvs, kOk kv.1 = true) :
    ItS Γ ρ F (Itk d od vs) (kvs.map fun kv => keyDt kv.1) (fun s => s[i]? = some (.dicL kvs)) where
  len := by rw [List.length_map]; exact hz
  go := fun j ρ1 F1 s H ld g ok h => ⟨g.sub _ _ (ld.sub _ _ hF), by rw [← t.length]; rw [List.length_map] at h; exact h⟩
  stop := fun j ρ1 F1 s H ld g ok h => ⟨g.sub _ _ (ld.sub _ _ hF), by rw [← t.length]; rw [List.length_map] at h; exact Nat.le_of_eq h.symm⟩
  yld := fun j ρ1 F1 s H x v H' ld g ok hx y => by
    obtain ⟨e1, k, w, e2, e3⟩ := y
    subst e1
    obtain ⟨dd, h1⟩ := t.get e2
    rw [List.getElem?_map, h1] at hx
    cases hx
    subst e3
    exact ⟨F1, LE.refl, g, Den.ofKey (hk _ (List.mem_of_getElem? h1))⟩
theorem its_keysT {i : Nat} {d : Addr} {od : Obj} {kvs : List (List Key × Dt)} {vs : List (List Key × V)} (hi : ρ[i]? = some d) (hF : F d = some (.frz od (.dT vs))) (t : DenK Γ ρ F kvs vs) (hz : kvs.length ≤ sizeLine) (hk : ∀ kv ∈ kvs, kv.1.all kOk = true) (hs : ∀ kv ∈ kvs, kv.1.length ≤ 1000) :
    ItS Γ ρ F (Itkt d od vs) (kvs.map fun kv => keysDt kv.1) (fun s => s[i]? = some (.ditL kvs)) where
  len := by rw [List.length_map]; exact hz
  go := fun j ρ1 F1 s H ld g ok h => ⟨g.sub _ _ (ld.sub _ _ hF), by rw [← t.length]; rw [List.length_map] at h; exact h⟩
  stop := fun j ρ1 F1 s H ld g ok h => ⟨g.sub _ _ (ld.sub _ _ hF), by rw [← t.length]; rw [List.length_map] at h; exact Nat.le_of_eq h.symm⟩
  yld := fun j ρ1 F1 s H x v H' ld g ok hx y => by
    obtain ⟨e1, k, w, q, e2, e3, e4⟩ := y
    subst e1
    obtain ⟨dd, h1⟩ := t.get e2
    rw [List.getElem?_map, h1] at hx
    cases hx
    subst e3
    obtain ⟨F', l', g', hq⟩ := g.adopt e4
    refine ⟨F', l', g', ?_⟩
    simp only [keysDt, Den]
    exact ⟨by rw [List.length_map, sizeLine_eq]; have h9 : k.length ≤ 1000 := hs _ (List.mem_of_getElem? h1); omega, q, _, rfl, hq, Dens.ofKeys (hk _ (List.mem_of_getElem? h1))⟩
end
/-- the keys of a locked dict -/
def iKeysL (f : Ex) : Is := fun env => bnd (f env) fun d s => match d with
  | .obj i => match s[i]? with
    | some (.dicL kvs) => .ok (kvs.map fun kv => keyDt kv.1, fun s' => s'[i]? = some (.dicL kvs)) s
    | some (.ditL kvs) => if kvs.all (fun kv => decide (kv.1.length ≤ 1000)) = true then .ok (kvs.map fun kv => keysDt kv.1, fun s' => s'[i]? = some (.ditL kvs)) s else .bad
    | _ => .bad
  | _ => .bad
section
variable {J : Cn} {X : Cx} {W : WX} {e tgt : Expr} {fe : Ex} {apos cpos : Pos}
theorem is_keys (h : ES J X W e fe) (hbase : attributeBase e "keys" X.env (eval e X.env) = eval e X.env := by rfl) (hline : (apos.endLine == cpos.line) = true := by rfl) : IS J X W tgt (.Call (.Attribute e "keys" apos) [] [] cpos) (iKeysL fe) :=
  PI.imp (pi_keysA h hbase hline) fun σ H R ⟨env, ρ, F, s, g, l, k⟩ => ⟨env, ρ, F, s, g, l, Po.bind k fun d s1 ρ1 F1 H1 v e1 l1 g1 r1 k1 => by
    cases d with
    | obj i =>
      simp only [Den] at r1
      obtain ⟨a, ea, q⟩ := r1
      simp only [] at k1
      split at k1
      · rename_i kvs hs
        obtain ⟨⟨z1, z2⟩, od, vs, hx, t⟩ := g1.at_ i a _ q hs
        exact ⟨a, od, ea, .inl ⟨vs, hx.1, k1 ρ1 F1 H1 _ LE.refl g1 (its_keys q hx.2 t z1 z2)⟩⟩
      · rename_i kvs hs
        split at k1
        · rename_i hl
          obtain ⟨⟨z1, z2⟩, od, vs, hx, t⟩ := g1.at_ i a _ q hs
          exact ⟨a, od, ea, .inr ⟨vs, hx.1, k1 ρ1 F1 H1 _ LE.refl g1 (its_keysT q hx.2 t z1 z2 (fun kv hkv => by simpa using List.all_eq_true.mp hl kv hkv))⟩⟩
        · exact False.elim k1
      · exact False.elim k1
    | _ => exact False.elim k1⟩
end
end Pd
namespace Pd
open PySem L2
/-- an object comes to be the store's -/
theorem G.newAt {Γ : Wd} {ρ : List Addr} {F H : Hp} {s : Sto} (g : G Γ ρ F s H) {p : Addr} {o : HO} {mo : Mo} (hp : p ∉ ρ) (hf : F p = none) (hm : MoOk Γ (ρ ++ [p]) F (upd H p o) p mo) : G Γ (ρ ++ [p]) F (s ++ [mo]) (upd H p o) where
  sub := fun a u e => by
    rw [upd_ne (fun z => by rw [z, hf] at e; cases e)]; exact g.sub _ _ e
  len := by simp [g.len]
  nd := by
    refine List.nodup_append.mpr ⟨g.nd, by simp, fun a ha b hb => ?_⟩
    rw [List.mem_singleton] at hb
    rw [hb]
    exact fun z => hp (by rw [← z]; exact ha)
  sep := fun a h => by
    rcases List.mem_append.mp h with h | h
    · exact g.sep a h
    · rw [List.mem_singleton] at h; rw [h]; exact .inl hf
  at_ := fun i a m h1 h2 => by
    by_cases hi : i < ρ.length
    · rw [List.getElem?_append_left hi] at h1
      rw [List.getElem?_append_left (by rw [← g.len]; exact hi)] at h2
      exact (g.at_ i a m h1 h2).mono LD.push (upd_ne fun z => hp (by rw [← z]; exact List.mem_of_getElem? h1))
    · rw [List.getElem?_append_right (by omega)] at h1
      rw [List.getElem?_append_right (by rw [← g.len]; omega)] at h2
      have e0 : i - ρ.length = 0 := by
        have := (List.getElem?_eq_some_iff.mp h1).1
        simp at this
        omega
      rw [e0] at h1
      rw [← g.len, e0] at h2
      have e1 : p = a := Option.some.inj h1
      have e2 : mo = m := Option.some.inj h2
      subst e1; subst e2
      exact hm
theorem LE.newAt {ρ ρ1 : List Addr} {F F1 H H1 : Hp} {p : Addr} {o : HO} (l : LE ρ F H ρ1 F1 H1) (hp : H p = none) : LE ρ F H (ρ1 ++ [p]) F1 (upd H1 p o) where
  ld := l.ld.trans LD.push
  fr := fun a h => by
    rcases List.mem_append.mp h with h | h
    · exact l.fr a h
    · rw [List.mem_singleton] at h; rw [h]; exact .inr hp
  ff := l.ff
  keep := fun a u h n => by rw [upd_ne (ne_of_none h hp)]; exact l.keep a u h n
  there := fun a u h => by rw [upd_ne (ne_of_none h hp)]; exact l.there a u h
theorem nodup_inr {α β : Type} : ∀ {l : List β}, l.Nodup → (l.map (Sum.inr : β → α ⊕ β)).Nodup
  | [], _ => List.nodup_nil
  | x :: l, h => by
    rw [List.nodup_cons] at h
    rw [List.map_cons, List.nodup_cons]
    refine ⟨fun z => ?_, nodup_inr h.2⟩
    obtain ⟨y, hy, e⟩ := List.mem_map.mp z
    cases e
    exact h.1 hy
section
variable {J : Cn} {X : Cx} {W : WX} {a b c e e2 : Expr} {es : List Expr} {fa fb fc fe : Ex} {fs : List Ex} {pos p p2 : Pos}
/-! ### str(n) -/
def strI (i : Int) : Str := Str.ofString (toString i)
def dStr (d : Dt) (s : Sto) : Out Dt := match d with
  | .int i => if decide (i.natAbs < 2 ^ 64) && sok (strI i) then .ok (.str (strI i)) s else .bad
  | _ => .bad
theorem b_str : B1 J X (.type "str") dStr := ⟨_, call_str_int, fun ρ F s H x dx Q E g rx k => by
  cases dx with
  | int i =>
    simp only [Den] at rx
    subst rx
    simp only [dStr] at k
    split at k
    · rename_i h
      rw [Bool.and_eq_true, decide_eq_true_eq] at h
      refine ⟨i, rfl, ?_, k ρ F H _ LE.refl g (by simp only [Den]; exact ⟨rfl, h.2⟩)⟩
      by_cases h0 : i.natAbs = 0
      · rw [h0]; decide
      · exact Nat.lt_trans ((Nat.log2_lt h0).mpr h.1) (by decide)
    · exact False.elim k
  | _ => exact False.elim k⟩
/-! ### list(range(a, b)) -/
def rgD (i j : Int) : List Dt := (List.range (j - i).toNat).map fun (k : Nat) => .int (i + k)
theorem dens_rg {Γ : Wd} {ρ : List Addr} {F : Hp} (i : Int) : ∀ l : List Nat, Dens Γ ρ F (l.map fun (k : Nat) => .int (i + k)) (l.map fun (k : Nat) => V.int (i + k))
  | [] => by simp only [List.map_nil, Dens]
  | k :: l => by
    simp only [List.map_cons, Dens]
    exact ⟨_, _, rfl, by simp only [Den], dens_rg i l⟩
def eListRg (nw : List Dt → Sto → Out Dt) (fa fb : Ex) : Ex := eOp (fun x y s => match x, y with
  | .int i, .int j => if decide (-(2 ^ 62) ≤ i ∧ i < 2 ^ 62 ∧ -(2 ^ 62) ≤ j ∧ j < 2 ^ 62 ∧ (j - i).toNat ≤ 2 ^ 24) = true then nw (rgD i j) s else .bad
  | _, _ => .bad) fa fb
theorem es_listRg {pos2 : Pos} {nw : List Dt → Sto → Out Dt} (n : IsNw nw) (hc : X.calm = true) (hg : Gl X "list") (hm : X.mg "list" = none) (hg2 : Gl X "range") (hm2 : X.mg "range" = none) (ha : ES J X W a fa) (hb : ES J X W b fb)
    (na : starEach [a, b] X.env = (false, eval a X.env) :: starEach [b] X.env := by rfl) (nb : starEach [b] X.env = (false, eval b X.env) :: starEach [] X.env := by rfl) (nd : (backTo pos (starEach [b] X.env)).any (·.1) = false := by rfl)
    (nc : starEach [.Call (.Name "range" p2) [a, b] [] pos] X.env = (false, eval (.Call (.Name "range" p2) [a, b] [] pos) X.env) :: starEach [] X.env := by rfl) :
    ES J X W (.Call (.Name "list" p) [.Call (.Name "range" p2) [a, b] [] pos] [] pos2) (eListRg nw fa fb) :=
  PE.imp (pe_listRg hc hg hm (prg_2 hg2 hm2 ha hb na nb nd) nc) fun σ H Q ⟨env, ρ, F, s, g, l, k⟩ => ⟨env, ρ, F, s, g, l, Po.bind k fun x s1 ρ1 F1 H1 v e1 l1 g1 r1 k1 => ⟨env, ρ1, F1, s1, g1, l.mono l1, Po.bind k1 fun y s2 ρ2 F2 H2 u e2 l2 g2 r2 k2 => by
    have r1' := Den.mono l2 _ _ r1
    cases x with
    | int i =>
      cases y with
      | int j =>
        simp only [Den] at r1' r2
        simp only at k2
        split at k2
        · rename_i h
          have h := of_decide_eq_true h
          refine ⟨i, j, r1', r2, h, fun q hq => new_lst n g2 (dens_rg i _) ?_ hq k2⟩
          have := h.2.2.2.2
          rw [List.length_map, List.length_range, sizeLine_eq]
          omega
        · exact False.elim k2
      | _ => exact False.elim k2
    | _ => exact False.elim k2⟩⟩
/-! ### {"k": v, ..} -/
def trsOf (Γ : Wd) (W : WX) : List Str → List Ex → List (TE × TE)
  | k :: ks, f :: fs => (tC (.str k), tE Γ W f) :: trsOf Γ W ks fs
  | _, _ => []
theorem dps_nil : PPs X pos [] [] (trsOf (wd J X) W [] []) := pps_nil
theorem dps_cons {k : Str} {ks : List Str} {kes : List (Option Expr)} {j} {kp : Pos} (hv : ES J X W e fe) (hr : PPs X pos kes es (trsOf (wd J X) W ks fs)) :
    PPs X pos (some (.Constant (.str k) j kp) :: kes) (e :: es) (trsOf (wd J X) W (k :: ks) (fe :: fs)) := pps_cons pe_str hv hr
theorem tPairs_mono {Γ : Wd} {W : WX} {σ : St} : ∀ {ks : List Str} {fs : List Ex} {H : Hp} {Q Q' : List (V × V) → Hp → Prop}, tPairs (trsOf Γ W ks fs) σ H Q → (∀ ps H', Q ps H' → Q' ps H') → tPairs (trsOf Γ W ks fs) σ H Q'
  | [], [], H, Q, Q', h, k => k _ _ h
  | [], _ :: _, H, Q, Q', h, k => k _ _ h
  | _ :: _, [], H, Q, Q', h, k => k _ _ h
  | z :: ks, f :: fs, H, Q, Q', ⟨env, ρ, F, s, g, l, h⟩, k => ⟨env, ρ, F, s, g, l, h.mono LE.refl (fun v H1 q => tPairs_mono q fun ps H' q => k _ _ q) fun _ _ q => q⟩
theorem pairs_of {Γ : Wd} {W : WX} {σ : St} {env : En} {Q : List V → Hp → Prop} : ∀ {ks : List Str} {fs : List Ex} {ρ : List Addr} {F H : Hp} {s : Sto}, ks.length = fs.length → G Γ ρ F s H → Sl Γ ρ F env σ → APo Γ ρ F H Q (fun c H' => W c none σ H') (evs fs env s) →
    tPairs (trsOf Γ W ks fs) σ H fun ps H' => ∃ xs, ps = (ks.map V.str).zip xs ∧ Q xs H'
  | [], [], ρ, F, H, s, _, g, l, k => ⟨[], rfl, k ρ F H [] LE.refl g (by simp only [Dens])⟩
  | [], _ :: _, _, _, _, _, h, _, _, _ => by simp at h
  | _ :: _, [], _, _, _, _, h, _, _, _ => by simp at h
  | z :: ks, f :: fs, ρ, F, H, s, h, g, l, k => by
    refine ⟨env, ρ, F, s, g, l, Po.bind k fun x s1 ρ1 F1 H1 v e1 l1 g1 r1 k1 => ?_⟩
    have := pairs_of (W := W) (ks := ks) (fs := fs) (Q := fun xs H' => Q (v :: xs) H') (by simpa using h) g1 (l.mono l1) (Po.bind k1 fun ds s2 ρ2 F2 H2 us e2 l2 g2 r2 k2 => ?_)
    · refine tPairs_mono this fun ps H' ⟨xs, e, q⟩ => ⟨v :: xs, by rw [e]; rfl, q⟩
    · exact k2 ρ2 F2 H2 (v :: us) LE.refl g2 (by simp only [Dens]; exact ⟨v, us, rfl, Den.mono l2 _ _ r1, r2⟩)
theorem denK_zip {Γ : Wd} {ρ : List Addr} {F : Hp} : ∀ {ks : List Key} {ds : List Dt} {xs : List V}, Dens Γ ρ F ds xs → DenK Γ ρ F (ks.zip ds) (ks.zip xs)
  | [], ds, xs, _ => by simp [DenK]
  | k :: ks, [], xs, h => by simp only [Dens] at h; subst h; simp [DenK]
  | k :: ks, d :: ds, xs, h => by
    simp only [Dens] at h
    obtain ⟨v, r, e, q, t⟩ := h
    subst e
    exact ⟨v, _, rfl, q, denK_zip t⟩
theorem merge_new : ∀ {more acc : List (Key × V)}, ((acc ++ more).map (·.1)).Nodup → mergeK acc more = acc ++ more
  | [], acc, _ => by simp [mergeK]
  | kv :: more, acc, h => by
    have h1 : valV acc kv.1 = none := by
      unfold valV
      rw [Option.map_eq_none_iff, List.find?_eq_none]
      intro x hx hd
      have hd := of_decide_eq_true hd
      rw [List.map_append, List.map_cons] at h
      exact (List.nodup_append.mp h).2.2 x.1 (List.mem_map.mpr ⟨x, hx, rfl⟩) kv.1 (List.mem_cons_self) hd
    have h2 : putK acc kv.1 kv.2 = acc ++ [kv] := putK_new kv.2 h1
    show mergeK (putK acc kv.1 kv.2) more = _
    rw [h2, merge_new (by rw [List.append_assoc]; exact h), List.append_assoc]
    rfl
theorem zip_kV : ∀ (ks : List Str) (xs : List V), (ks.map V.str).zip xs = (((ks.map Sum.inr : List Key).zip xs).map fun kv => (kV kv.1, kv.2))
  | [], xs => rfl
  | z :: ks, [] => rfl
  | z :: ks, x :: xs => by simp only [List.map_cons, List.zip_cons_cons, zip_kV ks xs]; rfl
def eDisp (ks : List Str) (fs : List Ex) : Ex := fun env => bnd (evs fs env) fun ds s => .ok (.obj s.length) (s ++ [.dic ((ks.map Sum.inr).zip ds)])
theorem es_disp {ks : List Str} {kes : List (Option Expr)} (h : PPs X pos kes es (trsOf (wd J X) W ks fs)) (hk : (ks.all sok && decide ks.Nodup && decide (ks.length = fs.length) && decide (ks.length ≤ 15)) = true := by decide +kernel)
    (hall : kes.all (·.isSome) = true := by rfl) (hl : kes.length = es.length := by rfl) (h0 : kes ≠ [] := by simp) (h15 : kes.length ≤ 15 := by decide) : ES J X W (.Dict kes es pos) (eDisp ks fs) :=
  PE.imp (pe_disp h hall hl h0 h15) fun σ H Q ⟨env, ρ, F, s, g, l, k⟩ p hp => by
    simp only [Bool.and_eq_true, decide_eq_true_eq] at hk
    obtain ⟨⟨⟨k1, k2⟩, k3⟩, k4⟩ := hk
    have g0 := g.skip (.dK []) hp
    have l0 : LE ρ F H ρ F (upd H p (.dK [])) := LE.skip hp
    have np : p ∉ ρ := fun z => g.new_ne hp z rfl
    have fin : APo (wd J X) ρ F (upd H p (.dK [])) (fun xs H2 => H2 p = some (.dK []) ∧ ks.length = xs.length ∧ Q (.ref p) (upd H2 p (.dK ((ks.map Sum.inr).zip xs)))) (fun c H' => W c none σ H') (evs fs env s) := by
      unfold eDisp bnd at k
      cases e : evs fs env s with
      | ok ds s1 =>
        rw [e] at k
        intro ρ1 F1 H1 xs l1 g1 r1
        have hp1 : H1 p = some (.dK []) := l1.keep _ _ upd_same np
        have np1 : p ∉ ρ1 := fun z => by
          rcases l1.fr p z with z | z
          · exact np z
          · rw [upd_same] at z; cases z
        have hF1 : F1 p = none := by
          cases e : F1 p with
          | none => rfl
          | some o =>
            rcases l1.ff p o e with ⟨u, z⟩ | z | ⟨_, xs, z⟩
            · rw [g.fnone hp] at z; cases z
            · rw [upd_same] at z; cases z
            · rw [upd_same] at z; cases z
        have hlen : ds.length = fs.length := evs_len e
        refine ⟨hp1, by rw [k3, ← hlen, r1.length], k (ρ1 ++ [p]) F1 _ (.ref p) (LE.newAt (l0.trans l1) hp) (g1.newAt np1 hF1 ?_) ?_⟩
        · refine ⟨⟨?_, fun kv hkv => ?_⟩, _, upd_same, DenK.monoD LD.push (denK_zip r1)⟩
          · rw [List.length_zip, List.length_map, sizeLine_eq]; omega
          · obtain ⟨kk, dd⟩ := kv
            have := (List.of_mem_zip hkv).1
            obtain ⟨z, hz, e⟩ := List.mem_map.mp this
            subst e
            exact List.all_eq_true.mp k1 z hz
        · simp only [Den]
          exact ⟨p, rfl, by rw [← g1.len]; simp⟩
      | exc c s1 =>
        rw [e] at k
        exact fun ρ1 F1 H1 C l1 g1 r1 => k ρ1 F1 H1 C (l0.trans l1) g1 r1
      | bad => rw [e] at k; exact k
    refine tPairs_mono (pairs_of k3 g0 (l.mono l0) fin) fun ps H2 ⟨xs, e, q1, ql, q2⟩ => ⟨q1, (ks.map Sum.inr).zip xs, ?_, ?_, ?_⟩
    · rw [e]
      exact zip_kV ks xs
    · rw [List.length_zip, List.length_map]; omega
    · rw [merge_new]
      · exact q2
      · rw [List.nil_append, List.map_fst_zip (by rw [List.length_map]; omega)]
        exact nodup_inr k2
end
end Pd
namespace Pd
open PySem L2
section
variable {J : Cn} {X : Cx} {W : WX} {a b c e e2 : Expr} {es : List Expr} {fa fb fc fe : Ex} {fs : List Ex} {pos p p2 : Pos}
/-! ### text * n, tuple * n -/
def repS (x : Str) (n : Nat) : Str := ⟨(List.replicate n x.cps).foldl (· ++ ·) #[]⟩
theorem foldl_app : ∀ (l : List (Array Nat)) (b : Array Nat), (l.foldl (· ++ ·) b).toList = b.toList ++ (l.map (·.toList)).flatten
  | [], b => by simp
  | a :: l, b => by
    rw [List.foldl_cons, foldl_app l, List.map_cons, List.flatten_cons, Array.toList_append, List.append_assoc]
theorem repS_codes (x : Str) (n : Nat) : (repS x n).cps.toList = (List.replicate n x.cps.toList).flatten := by
  unfold repS
  rw [foldl_app, List.map_replicate]
  rfl
theorem repS_len (x : Str) (n : Nat) : (repS x n).length = n * x.length := by
  have h1 : (repS x n).length = (repS x n).cps.toList.length := by rw [Array.length_toList]; rfl
  have h2 : x.length = x.cps.toList.length := by rw [Array.length_toList]; rfl
  rw [h1, repS_codes, List.length_flatten, List.map_replicate, List.sum_replicate_nat, h2]
theorem op_repS : OpR X (binaryOp .Mult) (fun x y H Q => ∃ z k, x = .str z ∧ y = .int k ∧ 2 ≤ k ∧ 0 < z.length ∧ z.length * k.toNat ≤ 1000000 ∧ Q (.str (repS z k.toNat)) H) := by
  intro pins s σ H x y v u Q I rx ry h
  obtain ⟨z, k, rfl, rfl, h1, h2, h3, q⟩ := h
  obtain ⟨t1, rfl⟩ := rx
  obtain ⟨t2, rfl⟩ := ry
  have hk : k ≤ 1000000 := by
    have : 1 * k.toNat ≤ z.length * k.toNat := Nat.mul_le_mul_right _ h2
    omega
  have n1 : ¬ k < 1 := by omega
  have n2 : (k == 1 || z.length == 0) = false := by
    have a1 : (k == 1) = false := by simpa using (by omega : ¬ k = 1)
    have a2 : (z.length == 0) = false := by simpa using (by omega : ¬ z.length = 0)
    rw [a1, a2]; rfl
  refine P.mul_str (by
    rw [decide_eq_false (by omega), decide_eq_false (by omega)]; rfl) (fun _ _ hh => ?_) (fun _ _ => ?_) ?_
  · have : z.length ≤ 1000000 := by
      have : z.length * 1 ≤ z.length * k.toNat := Nat.mul_le_mul_left _ (by omega)
      omega
    have h5 : (1000000 : Int) ≤ (2 ^ 63 - 1) / k := by
      rw [Int.le_ediv_iff_mul_le (by omega)]
      omega
    omega
  · show Builtin.Str.tooLong _ = false
    unfold Builtin.Str.tooLong
    rw [sizeLine_eq]
    simp
    omega
  · rw [if_neg n1, if_neg (by rw [n2]; exact Bool.false_ne_true)]
    refine ⟨?_, .str _, H, I.tok _, ⟨_, rfl⟩, q⟩
    show (repS z k.toNat).length ≤ sizeLine
    rw [repS_len, sizeLine_eq, Nat.mul_comm]
    omega
def dRepS (x y : Dt) (s : Sto) : Out Dt := match x with
  | .str z => match y with
    | .int k => if decide (2 ≤ k ∧ 0 < z.length ∧ z.length * k.toNat ≤ 1000000) = true then .ok (.str (repS z k.toNat)) s else .bad
    | _ => .bad
  | _ => .bad
theorem es_repS (ha : ES J X W a fa) (hb : ES J X W b fb) : ES J X W (.BinOp a .Mult b pos) (eOp dRepS fa fb) :=
  es_op op_repS (fun ρ F s H x y dx dy Q E g rx ry k => by
    cases dx with
    | str z =>
      cases dy with
      | int m =>
        simp only [Den] at rx ry
        simp only [dRepS] at k
        split at k
        · rename_i hz
          have hz := of_decide_eq_true hz
          refine ⟨z, m, rx.1, ry, hz.1, hz.2.1, hz.2.2, k ρ F H _ LE.refl g ?_⟩
          simp only [Den]
          refine ⟨trivial, sok_of (fun c hc => ?_) (by rw [repS_len, Nat.mul_comm]; exact hz.2.2)⟩
          rw [repS_codes, List.mem_flatten] at hc
          obtain ⟨l, hl, hc⟩ := hc
          rw [(List.mem_replicate.mp hl).2] at hc
          exact sok_mem rx.2 hc
        · exact False.elim k
      | _ => exact False.elim k
    | _ => exact False.elim k) ha hb
def dRepT (x y : Dt) (s : Sto) : Out Dt := match x with
  | .tup l => match y with
    | .int k => if decide (2 ≤ k ∧ k ≤ 1000 ∧ 0 < l.length ∧ l.length ≤ 1000) = true then .ok (.tup (List.replicate k.toNat l).flatten) s else .bad
    | _ => .bad
  | _ => .bad
theorem es_repT (ha : ES J X W a fa) (hb : ES J X W b fb) : ES J X W (.BinOp a .Mult b pos) (eOp dRepT fa fb) :=
  es_op op_repT (fun ρ F s H x y dx dy Q E g rx ry k => by
    cases dx with
    | tup l =>
      cases dy with
      | int m =>
        have ry' := ry
        simp only [Den] at ry'
        simp only [dRepT] at k
        split at k
        · rename_i hz
          have hz := of_decide_eq_true hz
          obtain ⟨a, xs, e, q, t, z⟩ := g.sqT rx (l := l) rfl
          have hl := t.length
          have hlen : (List.replicate m.toNat l).flatten.length ≤ sizeLine := by
            rw [List.length_flatten, List.map_replicate, List.sum_replicate_nat, sizeLine_eq]
            have : m.toNat * l.length ≤ 1000 * 1000 := Nat.mul_le_mul (by omega) hz.2.2.2
            omega
          refine ⟨a, m, xs, e, ry', q, fun z => ?_, hz.1, hz.2.1, by omega, fun p hp => new_tup g (t.rep m.toNat) hlen hp k⟩
          rw [z] at hl
          simp at hl
          rw [hl] at hz
          simp at hz
        · exact False.elim k
      | _ => exact False.elim k
    | _ => exact False.elim k) ha hb
/-! ### a list unpacked -/
def gU (is : List Nat) : Tg := fun d env s => match asL s d with
  | some l => setAll is l env
  | none => none
theorem gs_unl {is : List Nat} {k : Nat} (hc : X.calm = true) (h : GSs J X es is) (hn : (assignEach es X.env).length = is.length := by rfl) (hst : (assignEach es X.env).findIdx? (·.1) = none := by rfl) : GS J X (.Tuple es k pos) is (gU is) :=
  PG.imp (pg_unl hc h hn hst) fun v σ H Q ⟨env, ρ, F, s, d, env', g, l, r, e, q⟩ => by
    unfold gU at e
    split at e
    · rename_i ds hd
      obtain ⟨x, xs, e1, q1, t, _⟩ := g.sqL r hd
      exact ⟨x, xs, e1, q1, by rw [← t.length, setAll_len e], env, ρ, F, s, ds, env', g, l, t, e, q⟩
    · cases e
end
end Pd
/-! The order of ints, texts and tuples of them; sorting. -/
namespace Pd
open PySem L2
def ltK : Key → Key → Bool
  | .inl i, .inl j => decide (i < j)
  | .inl _, .inr _ => true
  | .inr _, .inl _ => false
  | .inr x, .inr y => decide (x.cps.toList < y.cps.toList)
theorem str_ext {x y : Str} (h : x.cps.toList = y.cps.toList) : x = y := by
  cases x; cases y
  simp only at h
  congr
  exact Array.toList_inj.mp h
theorem nl_irr (a : List Nat) : ¬ a < a := List.lt_irrefl a
theorem nl_tri (a b : List Nat) : a < b ∨ a = b ∨ b < a := by
  rcases List.le_total a b with h | h
  · by_cases e : a = b
    · exact .inr (.inl e)
    · exact .inl (List.not_le.mp fun z => e (List.le_antisymm h z))
  · by_cases e : a = b
    · exact .inr (.inl e)
    · exact .inr (.inr (List.not_le.mp fun z => e (List.le_antisymm z h)))
theorem ltK_irr (a : Key) : ltK a a = false := by
  cases a with
  | inl i => simp [ltK]
  | inr x => simp [ltK, nl_irr]
theorem ltK_asym {a b : Key} (h : ltK a b = true) : ltK b a = false := by
  cases a <;> cases b <;> simp only [ltK, decide_eq_true_eq, decide_eq_false_iff_not] at h ⊢
  · omega
  · cases h
  · exact fun z => nl_irr _ (List.lt_trans h z)
theorem ltK_tri (a b : Key) : ltK a b = true ∨ a = b ∨ ltK b a = true := by
  cases a <;> cases b <;> simp only [ltK, decide_eq_true_eq, Sum.inl.injEq, Sum.inr.injEq]
  · omega
  · exact .inl trivial
  · exact .inr (.inr trivial)
  · rename_i x y
    rcases nl_tri x.cps.toList y.cps.toList with h | h | h
    · exact .inl h
    · exact .inr (.inl (str_ext h))
    · exact .inr (.inr h)
theorem ltK_trans {a b c : Key} (h : ltK a b = true) (k : ltK b c = true) : ltK a c = true := by
  cases a <;> cases b <;> cases c <;> simp only [ltK, decide_eq_true_eq] at h k ⊢
  · omega
  · cases k
  · cases h
  · cases h
  · cases k
  · exact List.lt_trans h k
theorem ltK_co {a c : Key} (b : Key) (h : ltK a c = true) : ltK a b = true ∨ ltK b c = true := by
  rcases ltK_tri a b with k | k | k
  · exact .inl k
  · rw [k] at h; exact .inr h
  · exact .inr (ltK_trans k h)
def lexK : List Key → List Key → Bool
  | [], [] => false
  | [], _ :: _ => true
  | _ :: _, [] => false
  | a :: as, b :: bs => if a = b then lexK as bs else ltK a b
theorem lexK_asym : ∀ {x y : List Key}, lexK x y = true → lexK y x = false
  | [], [], h => by simp [lexK] at h
  | [], _ :: _, _ => rfl
  | _ :: _, [], h => by simp [lexK] at h
  | a :: as, b :: bs, h => by
    simp only [lexK] at h ⊢
    by_cases e : a = b
    · rw [if_pos e] at h
      rw [if_pos e.symm]
      exact lexK_asym h
    · rw [if_neg e] at h
      rw [if_neg (fun z => e z.symm)]
      exact ltK_asym h
theorem lexK_tri : ∀ x y : List Key, lexK x y = true ∨ x = y ∨ lexK y x = true
  | [], [] => .inr (.inl rfl)
  | [], _ :: _ => .inl rfl
  | _ :: _, [] => .inr (.inr rfl)
  | a :: as, b :: bs => by
    simp only [lexK]
    by_cases e : a = b
    · rw [if_pos e, if_pos e.symm]
      rcases lexK_tri as bs with h | h | h
      · exact .inl h
      · exact .inr (.inl (by rw [e, h]))
      · exact .inr (.inr h)
    · rw [if_neg e, if_neg (fun z => e z.symm)]
      rcases ltK_tri a b with h | h | h
      · exact .inl h
      · exact absurd h e
      · exact .inr (.inr h)
theorem lexK_co : ∀ {x z : List Key} (y : List Key), lexK x z = true → lexK x y = true ∨ lexK y z = true
  | [], [], _, h => by simp [lexK] at h
  | [], _ :: _, [], _ => .inr rfl
  | [], _ :: _, _ :: _, _ => .inl rfl
  | _ :: _, [], _, h => by simp [lexK] at h
  | _ :: _, _ :: _, [], _ => .inr rfl
  | a :: as, c :: cs, b :: bs, h => by
    simp only [lexK] at h ⊢
    by_cases e : a = b
    · rw [if_pos e]
      rw [e] at h
      by_cases e2 : b = c
      · rw [if_pos e2] at h ⊢
        exact lexK_co bs h
      · rw [if_neg e2] at h ⊢
        exact .inr h
    · rw [if_neg e]
      by_cases e2 : b = c
      · rw [if_pos e2]
        by_cases e3 : a = c
        · exact absurd (e3.trans e2.symm) e
        · rw [if_neg e3] at h
          rw [e2]; exact .inl h
      · rw [if_neg e2]
        by_cases e3 : a = c
        · rcases ltK_tri a b with k | k | k
          · exact .inl k
          · exact absurd k e
          · exact .inr (by rw [← e3]; exact k)
        · rw [if_neg e3] at h
          exact ltK_co b h
/-- at most -/
def leKs (x y : List Key) : Bool := !lexK y x
theorem leKs_total (x y : List Key) : leKs x y = true ∨ leKs y x = true := by
  unfold leKs
  cases h : lexK y x with
  | true => exact .inr (by rw [lexK_asym h]; rfl)
  | false => exact .inl rfl
theorem leKs_antisymm {x y : List Key} (h : leKs x y = true) (k : leKs y x = true) : x = y := by
  unfold leKs at h k
  rcases lexK_tri x y with e | e | e
  · rw [e] at k; cases k
  · exact e
  · rw [e] at h; cases h
theorem leKs_trans {x y z : List Key} (h : leKs x y = true) (k : leKs y z = true) : leKs x z = true := by
  unfold leKs at h k ⊢
  cases e : lexK z x with
  | false => rfl
  | true =>
    rcases lexK_co y e with e | e
    · rw [e] at k; cases k
    · rw [e] at h; cases h
/-! sorting by keys -/
section
variable {α : Type} (f : α → List Key)
def insK (a : α) : List α → List α
  | [] => [a]
  | b :: r => if leKs (f a) (f b) = true then a :: b :: r else b :: insK a r
def sortK : List α → List α
  | [] => []
  | a :: r => insK f a (sortK r)
theorem insK_perm (a : α) : ∀ l : List α, (insK f a l).Perm (a :: l)
  | [] => List.Perm.refl _
  | b :: r => by
    unfold insK
    split
    · exact List.Perm.refl _
    · exact ((insK_perm a r).cons b).trans (List.Perm.swap _ _ _)
theorem sortK_perm : ∀ l : List α, (sortK f l).Perm l
  | [] => List.Perm.refl _
  | a :: r => (insK_perm f a _).trans ((sortK_perm r).cons a)
theorem insK_sorted (a : α) : ∀ {l : List α}, l.Pairwise (fun x y => leKs (f x) (f y) = true) → (insK f a l).Pairwise (fun x y => leKs (f x) (f y) = true)
  | [], _ => by simp [insK]
  | b :: r, h => by
    unfold insK
    rw [List.pairwise_cons] at h
    split
    · rename_i hab
      refine List.pairwise_cons.mpr ⟨fun y hy => ?_, List.pairwise_cons.mpr h⟩
      rcases List.mem_cons.mp hy with e | hy
      · rw [e]; exact hab
      · exact leKs_trans hab (h.1 y hy)
    · rename_i hab
      have hba : leKs (f b) (f a) = true := (leKs_total _ _).resolve_left hab
      refine List.pairwise_cons.mpr ⟨fun y hy => ?_, insK_sorted a h.2⟩
      rcases List.mem_cons.mp ((insK_perm f a r).mem_iff.mp hy) with e | hy
      · rw [e]; exact hba
      · exact h.1 y hy
theorem sortK_sorted : ∀ l : List α, (sortK f l).Pairwise (fun x y => leKs (f x) (f y) = true)
  | [] => List.Pairwise.nil
  | a :: r => insK_sorted f a (sortK_sorted r)
theorem sorted_unique : ∀ {l m : List α}, l.Perm m → (∀ a ∈ l, ∀ b ∈ l, f a = f b → a = b) → l.Pairwise (fun x y => leKs (f x) (f y) = true) → m.Pairwise (fun x y => leKs (f x) (f y) = true) → l = m
  | [], m, p, _, _, _ => (List.Perm.nil_eq p)
  | a :: l, [], p, _, _, _ => (List.Perm.symm p).nil_eq.symm
  | a :: l, b :: m, p, hi, h1, h2 => by
    rw [List.pairwise_cons] at h1 h2
    have e : a = b := by
      have ha : a ∈ b :: m := p.mem_iff.mp List.mem_cons_self
      have hb : b ∈ a :: l := p.mem_iff.mpr List.mem_cons_self
      rcases List.mem_cons.mp ha with e | ha
      · exact e
      · rcases List.mem_cons.mp hb with e | hb'
        · exact e.symm
        · exact hi a List.mem_cons_self b hb (leKs_antisymm (h1.1 b hb') (h2.1 a ha))
    subst e
    rw [sorted_unique ((List.perm_cons a).mp p) (fun x hx y hy => hi x (List.mem_cons_of_mem _ hx) y (List.mem_cons_of_mem _ hy)) h1.2 h2.2]
end
/-! what may be sorted -/
inductive Md where
  | i | s | t (sh : List Bool)
deriving DecidableEq
def isI : Key → Bool
  | .inl _ => true
  | .inr _ => false
def keyL : Dt → List Key
  | .int i => [.inl i]
  | .str x => [.inr x]
  | .tup l => (keysL l).getD []
  | _ => []
def okD : Md → Dt → Bool
  | .i, .int _ => true
  | .s, .str _ => true
  | .t sh, .tup l => match keysL l with
    | some ks => decide (ks.map isI = sh) && !sh.isEmpty
    | none => false
  | _, _ => false
def mdD : Dt → Option Md
  | .int _ => some .i
  | .str _ => some .s
  | .tup l => (keysL l).map fun ks => .t (ks.map isI)
  | _ => none
def sortOk : List Dt → Bool
  | [] => true
  | d :: l => match mdD d with
    | some md => (d :: l).all (okD md)
    | none => false
theorem keysL_inj : ∀ {l m : List Dt} {ks : List Key}, keysL l = some ks → keysL m = some ks → l = m
  | [], [], ks, _, _ => rfl
  | [], d :: m, ks, h, k => by
    simp only [keysL, Option.some.injEq] at h k
    subst h
    split at k <;> simp at k
  | d :: l, [], ks, h, k => by
    simp only [keysL, Option.some.injEq] at h k
    subst k
    split at h <;> simp at h
  | d :: l, e :: m, ks, h, k => by
    simp only [keysL] at h k
    split at h
    · rename_i a b h1 h2
      split at k
      · rename_i a' b' h3 h4
        simp only [Option.some.injEq] at h k
        rw [← k] at h
        injection h with e1 e2
        subst e1; subst e2
        have : d = e := by
          cases d <;> simp only [keyD, Option.some.injEq, reduceCtorEq] at h1 <;> cases e <;> simp only [keyD, Option.some.injEq, reduceCtorEq] at h3
          · rw [← h1] at h3; cases h3; rfl
          · rw [← h1] at h3; cases h3
          · rw [← h1] at h3; cases h3
          · rw [← h1] at h3; cases h3; rfl
        rw [this, keysL_inj h2 h4]
      · cases k
    · cases h
theorem okD_inj {md : Md} {a b : Dt} (ha : okD md a = true) (hb : okD md b = true) (e : keyL a = keyL b) : a = b := by
  cases md <;> cases a <;> simp only [okD, Bool.false_eq_true] at ha <;> cases b <;> simp only [okD, Bool.false_eq_true] at hb
  · simp only [keyL, List.cons.injEq, Sum.inl.injEq, and_true] at e; rw [e]
  · simp only [keyL, List.cons.injEq, Sum.inr.injEq, and_true] at e; rw [e]
  · split at ha
    · rename_i ks h1
      split at hb
      · rename_i ks' h2
        simp only [keyL, h1, h2, Option.getD_some] at e
        subst e
        rw [keysL_inj h1 h2]
      · cases hb
    · cases ha
end Pd
/-! sorted(..) in the model, of ints, texts and tuples of them. -/
namespace Pd
open PySem L2 SrtO PyProof.Rows Srt
section
variable {prog : Program} {w : World} {A : Around} {E : Value → Shared → Prop} {s : Shared}
def VKy (h : Heap) : Md → Value → List Key → Prop
  | .i, v, ks => ∃ i t, v = .int i t ∧ ks = [.inl i]
  | .s, v, ks => ∃ x t, v = .str x t ∧ ks = [.inr x]
  | .t sh, v, ks => ∃ a o n its, v = .ref a ∧ h.get? a = some o ∧ o.cls = .type "tuple" ∧ o.data = .seq its n ∧ Vals (ks.map kV) its.toList ∧ ks.map isI = sh ∧ sh ≠ []
def ltv (k : Value → List Key) (v u : Value) : Bool := lexK (k v) (k u)
theorem swoK (k : Value → List Key) : Swo (ltv k) := ⟨fun x y h => lexK_asym h, fun x y z h1 h2 => by
  unfold ltv at h1 h2 ⊢
  cases e : lexK (k z) (k x) with
  | false => rfl
  | true =>
    rcases lexK_co (k y) e with e | e
    · rw [e] at h2; cases h2
    · rw [e] at h1; cases h1⟩
theorem lexK_one (a b : Key) : lexK [a] [b] = ltK a b := by
  simp only [lexK]
  split
  · rename_i h; rw [h, ltK_irr]
  · rfl
theorem katK {KS KS' : List Key} : ∀ (ks ks' : List Key) (its its' : List Value) (i : Nat), Vals (ks.map kV) its → Vals (ks'.map kV) its' → ks.map isI = ks'.map isI → lexK KS KS' = lexK ks ks' →
    PySem.W.KatLex prog w A true false (fun r s' => s' = s ∧ r = lexK KS KS') (its.zip its') i s
  | [], [], its, its', i, r, r', _, e => by
    cases r; cases r'
    exact PySem.W.kat_nil ⟨rfl, by rw [e]; rfl⟩
  | [], _ :: _, _, _, _, _, _, h, _ => by simp at h
  | _ :: _, [], _, _, _, _, _, h, _ => by simp at h
  | a :: ks, b :: ks', its, its', i, r, r', h, e => by
    rw [List.map_cons] at r r'
    cases r with
    | cons ra rt =>
      cases r' with
      | cons rb rt' =>
        rename_i u us u' us'
        simp only [List.map_cons, List.cons.injEq] at h
        rw [List.zip_cons_cons]
        simp only [lexK] at e
        have next : a = b → PySem.W.KatGo prog w A true false (fun r s' => s' = s ∧ r = lexK KS KS') u u' (us.zip us') i true s := fun eab => by
          rw [if_pos eab] at e
          exact PySem.W.kat_yes (katK ks ks' us us' (i + 1) rt rt' h.2 e)
        cases a with
        | inl x =>
          cases b with
          | inr y => simp [isI] at h
          | inl y =>
            obtain ⟨t, rfl⟩ := ra
            obtain ⟨t', rfl⟩ := rb
            refine PySem.W.kat_cons (SeqAt.EqAt.int_int x t y t' prog w _ _ ?_)
            refine PySem.W.kat_go (fun e1 => ?_) (fun e1 => ?_)
            · exact next (by have : x = y := by simpa using e1
                             rw [this])
            · have ne : ¬ x = y := by simpa using e1
              rw [if_neg (fun z => ne (Sum.inl.inj z))] at e
              refine PySem.W.kat_no ?_
              cases i with
              | zero => exact oneLt_int ⟨rfl, by rw [e]; rfl⟩
              | succ i => exact PySem.W.kat_one _ _ (PyProof.Rows.lt_int (show s = s ∧ decide (x < y) = lexK KS KS' from ⟨rfl, by rw [e]; rfl⟩))
        | inr x =>
          cases b with
          | inl y => simp [isI] at h
          | inr y =>
            obtain ⟨t, rfl⟩ := ra
            obtain ⟨t', rfl⟩ := rb
            refine PySem.W.kat_cons (SeqAt.EqAt.str_str x t y t' prog w _ _ ?_)
            refine PySem.W.kat_go (fun e1 => ?_) (fun e1 => ?_)
            · exact next (by have : x = y := by simpa using e1
                             rw [this])
            · have ne : ¬ x = y := by simpa using e1
              rw [if_neg (fun z => ne (Sum.inr.inj z))] at e
              refine PySem.W.kat_no ?_
              cases i with
              | zero => exact PyProof.Rows.oneLt_str ⟨rfl, by rw [e]; rfl⟩
              | succ i => exact PySem.W.kat_one _ _ (PySem.P.lt_str (show s = s ∧ decide (x.cps.toList < y.cps.toList) = lexK KS KS' from ⟨rfl, by rw [e]; rfl⟩))
theorem vky_keep {h h' : Heap} {md : Md} {v : Value} {ks : List Key} (x : VKy h md v ks) (k : ∀ b o, o.cls = .type "tuple" → h.get? b = some o → h'.get? b = some o) : VKy h' md v ks := by
  cases md with
  | i => exact x
  | s => exact x
  | t sh =>
    obtain ⟨a, o, n, its, e, ho, hc, hd, r, q⟩ := x
    exact ⟨a, o, n, its, e, k a o hc ho, hc, hd, r, q⟩
theorem sortableK {a : Addr} {vs : List Value} {md : Md} {k : Value → List Key} (h2 : 2 ≤ vs.length) (hp : ∀ v ∈ vs, VKy s.heap md v (k v)) (ha : ∀ o, s.heap.get? a = some o → o.cls ≠ .type "tuple") : SortableO prog w A s a vs (ltv k) := by
  intro h' keep
  cases md with
  | i =>
    have hI : IntsAre vs (vs.map iv) := ints_iv fun v hv => by
      obtain ⟨i, t, e, _⟩ := hp v hv
      exact ⟨i, t, e⟩
    refine ⟨oneType', fun Q E hq => ?_, fun p q hm hm' => ?_⟩
    · match vs, hI, h2 with
      | v1 :: v2 :: rest, hI, _ =>
        rw [keyKind_ints hI]
        exact wpAny_pure hq
      | [], _, h => exact absurd h (by decide)
      | [v], _, h => exact absurd h (by simp)
    · obtain ⟨x, t, e, e1⟩ := hp _ hm
      obtain ⟨y, u, e', e2⟩ := hp _ hm'
      show wpAny (model prog w) A (keyLt' oneType' p.1 q.1) (fun r s' => s' = _ ∧ r = lexK (k p.1) (k q.1)) (fun _ _ => False) _
      rw [e1, e2, lexK_one, e, e', keyLt'_oneType]
      exact oneLt_int ⟨rfl, rfl⟩
  | s =>
    obtain ⟨ss, hS⟩ : ∃ ss, StrsAre vs ss := by
      clear keep ha h2
      induction vs with
      | nil => exact ⟨[], .nil⟩
      | cons v vs ih =>
        obtain ⟨ss, hs⟩ := ih fun u hu => hp u (List.mem_cons_of_mem _ hu)
        obtain ⟨x, t, e, _⟩ := hp v List.mem_cons_self
        exact ⟨x :: ss, by rw [e]; exact .cons x t hs⟩
    refine ⟨oneType', fun Q E hq => ?_, fun p q hm hm' => ?_⟩
    · match vs, hS, h2 with
      | v1 :: v2 :: rest, hI, _ =>
        rw [keyKind_strs hI]
        exact wpAny_pure hq
      | [], _, h => exact absurd h (by decide)
      | [v], _, h => exact absurd h (by simp)
    · obtain ⟨x, t, e, e1⟩ := hp _ hm
      obtain ⟨y, u, e', e2⟩ := hp _ hm'
      show wpAny (model prog w) A (keyLt' oneType' p.1 q.1) (fun r s' => s' = _ ∧ r = lexK (k p.1) (k q.1)) (fun _ _ => False) _
      rw [e1, e2, lexK_one, e, e', keyLt'_oneType]
      exact PyProof.Rows.oneLt_str ⟨rfl, rfl⟩
  | t sh =>
    have hp' : ∀ v ∈ vs, VKy h' (.t sh) v (k v) := fun v hm => vky_keep (hp v hm) fun b o c e => keep b o (fun z => by subst z; exact ha o e c) e
    obtain ⟨T, hT⟩ : ∃ T : Bool, sh.head? = some T := by
      match vs, h2, hp' with
      | v :: _, _, hp' =>
        obtain ⟨_, _, _, _, _, _, _, _, _, _, hn⟩ := hp' v List.mem_cons_self
        cases sh with
        | nil => exact absurd rfl hn
        | cons b _ => exact ⟨b, rfl⟩
      | [], h, _ => exact absurd h (by decide)
    obtain ⟨fs, h1, h3⟩ : ∃ fs, PySem.W.KatTups h' vs fs ∧ fs.length = vs.length ∧ ∀ f ∈ fs, (T = true ∧ ∃ x t, f = Value.int x t) ∨ (T = false ∧ ∃ x t, f = Value.str x t) := by
      clear keep ha h2 hp
      induction vs with
      | nil => exact ⟨[], PySem.W.KatTups.nil, rfl, fun f hf => nomatch hf⟩
      | cons v vs ih =>
        obtain ⟨fs, q1, q2, q3⟩ := ih fun u hu => hp' u (List.mem_cons_of_mem _ hu)
        obtain ⟨a, o, n, its, e, ho, hc, hd, r, hsh, hn⟩ := hp' v List.mem_cons_self
        cases hk : k v with
        | nil => rw [hk] at hsh; exact absurd hsh.symm hn
        | cons key rest =>
          rw [hk, List.map_cons] at r
          obtain ⟨il, hil⟩ : ∃ il, its.toList = il := ⟨_, rfl⟩
          rw [hil] at r
          cases r with
          | cons ra rt =>
            rename_i u us
            have hu : its[0]? = some u := by rw [← Array.getElem?_toList, hil]; rfl
            refine ⟨u :: fs, by rw [e]; exact PySem.W.KatTups.cons ho hc hd hu q1, by simp [q2], fun f hf => ?_⟩
            rcases List.mem_cons.mp hf with ef | hf
            · subst ef
              have ht : isI key = T := by
                rw [← hsh, hk, List.map_cons] at hT
                exact Option.some.inj hT
              cases key with
              | inl x => obtain ⟨t, rfl⟩ := ra; exact .inl ⟨ht.symm, x, t, rfl⟩
              | inr x => obtain ⟨t, rfl⟩ := ra; exact .inr ⟨ht.symm, x, t, rfl⟩
            · exact q3 f hf
    refine ⟨tuples' true, fun Q E hq => ?_, fun p q hm hm' => ?_⟩
    · cases T with
      | true =>
        refine PySem.W.kat_kind (T := .type "int") h1 (by omega) (fun f hm => ?_) (by rfl) ?_
        · rcases h3.2 f hm with ⟨_, x, t, rfl⟩ | ⟨e, _⟩
          · exact PySem.W.Looks.now
          · cases e
        · have e : (Value.type "int" != Value.type "tuple") = true := by first | decide +kernel | rfl | decide
          rw [e]
          exact hq
      | false =>
        refine PySem.W.kat_kind (T := .type "str") h1 (by omega) (fun f hm => ?_) (by rfl) ?_
        · rcases h3.2 f hm with ⟨e, _⟩ | ⟨_, x, t, rfl⟩
          · cases e
          · exact PySem.W.Looks.now
        · have e : (Value.type "str" != Value.type "tuple") = true := by first | decide +kernel | rfl | decide
          rw [e]
          exact hq
    · obtain ⟨a1, o1, n1, its1, e1, ho1, hc1, hd1, r1, hs1, _⟩ := hp' _ hm
      obtain ⟨a2, o2, n2, its2, e2, ho2, hc2, hd2, r2, hs2, _⟩ := hp' _ hm'
      show wpAny (model prog w) A (keyLt' (tuples' true) p.1 q.1) (fun r s' => s' = _ ∧ r = lexK (k p.1) (k q.1)) (fun _ _ => False) _
      have hsz : its1.size = its2.size := by
        have l1 : (k p.1).length = its1.size := by simpa using r1.length
        have l2 : (k q.1).length = its2.size := by simpa using r2.length
        have l3 : (k p.1).length = (k q.1).length := by simpa using congrArg List.length (hs1.trans hs2.symm)
        omega
      generalize hK1 : k p.1 = K1 at *
      generalize hK2 : k q.1 = K2 at *
      rw [e1, e2]
      refine PySem.W.kat_lt (s := { s with heap := h' }) ho1 hd1 ho2 hd2 ?_
      rw [hsz, decide_eq_false (Nat.lt_irrefl _)]
      exact katK K1 K2 its1.toList its2.toList 0 r1 r2 (hs1.trans hs2.symm) rfl
end
end Pd
namespace Pd
open PySem L2 SrtO
open PyProof.Rows (kind_sorted plain_sorted entry_sorted args_sorted1 slot_list_sort entry_list_sort args_list_sort sortedHeap_at sortedHeap_old collect_list size_push' seqObj)
def HKy (H : Hp) : Md → V → List Key → Prop
  | .i, x, ks => ∃ i, x = .int i ∧ ks = [.inl i]
  | .s, x, ks => ∃ z, x = .str z ∧ ks = [.inr z]
  | .t sh, x, ks => ∃ a, x = .ref a ∧ H a = some (.tup (ks.map kV)) ∧ ks.map isI = sh ∧ sh ≠ []
def bV : Value → V
  | .int i _ => .int i
  | .str x _ => .str x
  | .ref a => .ref a
  | _ => .non
section
variable {X : Cx} {pins : List (Addr × Obj)} {σ : St} {H : Hp} {s : Shared}
theorem hky_back {md : Md} {x : V} {ks : List Key} {v : Value} (h : HKy H md x ks) (r : RelV x v) : bV v = x ∧ RelV (bV v) v := by
  cases md with
  | i => obtain ⟨i, rfl, _⟩ := h; obtain ⟨t, rfl⟩ := r; exact ⟨rfl, t, rfl⟩
  | s => obtain ⟨i, rfl, _⟩ := h; obtain ⟨t, rfl⟩ := r; exact ⟨rfl, t, rfl⟩
  | t sh => obtain ⟨a, rfl, _⟩ := h; cases r; exact ⟨rfl, rfl⟩
theorem hky_val (I : Inv X pins σ H s) {md : Md} {x : V} {ks : List Key} {v : Value} (h : HKy H md x ks) (r : RelV x v) : VKy s.heap md v ks := by
  cases md with
  | i => obtain ⟨i, rfl, e⟩ := h; obtain ⟨t, rfl⟩ := r; exact ⟨i, t, rfl, e⟩
  | s => obtain ⟨i, rfl, e⟩ := h; obtain ⟨t, rfl⟩ := r; exact ⟨i, t, rfl, e⟩
  | t sh =>
    obtain ⟨a, rfl, ha, e⟩ := h
    cases r
    obtain ⟨_, its, r2, o, ho, hc, n, hd⟩ := I.hok _ _ ha
    exact ⟨a, o, n, its.toArray, rfl, ho, hc, hd, by simpa using r2, e⟩
theorem vals_mem : ∀ {xs : List V} {its : List Value}, Vals xs its → ∀ v ∈ its, ∃ x ∈ xs, RelV x v
  | _, _, .cons h t, v, hv => by
    rcases List.mem_cons.mp hv with e | hv
    · subst e; exact ⟨_, List.mem_cons_self, h⟩
    · obtain ⟨x, hx, r⟩ := vals_mem t v hv
      exact ⟨x, List.mem_cons_of_mem _ hx, r⟩
theorem vals_bV {md : Md} {k : V → List Key} : ∀ {xs : List V} {its : List Value}, Vals xs its → (∀ x ∈ xs, HKy H md x (k x)) → its.map bV = xs
  | _, _, .nil, _ => rfl
  | _, _, .cons h t, hk => by
    rw [List.map_cons, (hky_back (hk _ List.mem_cons_self) h).1, vals_bV t fun x hx => hk x (List.mem_cons_of_mem _ hx)]
theorem vals_self : ∀ {its : List Value}, (∀ v ∈ its, RelV (bV v) v) → Vals (its.map bV) its
  | [], _ => .nil
  | v :: its, h => .cons (h v List.mem_cons_self) (vals_self fun u hu => h u (List.mem_cons_of_mem _ hu))
/-- items that are collected, sorted into a new list -/
def SortQ (H : Hp) (xs : List V) (k : V → List Key) (Q : VK) : Prop := ∀ ys p, ys.Pairwise (fun x y => leKs (k x) (k y) = true) → ys.Perm xs → H p = none → Q (.ref p) (upd H p (.lst ys))
theorem sort_tail {A : Around} {E : Value → Shared → Prop} {r : Addr} {xs : List V} {md : Md} {k : V → List Key} {Q : VK} (I : Inv X pins σ H s) (hk : ∀ x ∈ xs, HKy H md x (k x)) (hz0 : xs.length ≤ sizeLine) (q : SortQ H xs k Q)
    (hcol : ∀ (R : List Value → Shared → Prop) (E : Value → Shared → Prop), (∀ (h' : Heap) (tk : Nat) (its : List Value), (∀ b o, s.heap.get? b = some o → h'.get? b = some o) → Vals xs its → R its { s with heap := h', toks := tk }) → wpAny (model X.prog X.w) A.in1 (collect (.ref r)) R E s) :
    wpAny (model X.prog X.w) A (call (.builtin "sorted") [.ref r]) (fun v s' => ∃ x H', Inv X pins σ H' s' ∧ RelV x v ∧ Q x H') E s := by
  refine Calls.call_function_entry kind_sorted plain_sorted entry_sorted (args_sorted1 _) ?_
  unfold Builtin.«sorted»
  refine wpAny_bind (m := checkCount "sorted" 1 1 _) (wpAny_pure ?_)
  refine wpAny_bind (hcol _ _ fun h' tk its keep rv => ?_)
  have hz : its.length ≤ sizeLine := by rw [← rv.length]; exact hz0
  have I1 : Inv X pins σ H { s with heap := h', toks := tk } := I.kept keep
  refine wpAny_bind (wpAny_newList ?_ hz)
  have hoL : (h'.push (seqObj "list" its.toArray 0)).get? h'.objs.size = some (seqObj "list" its.toArray 0) := Heap.get?_push_size _ rfl
  show wpAny _ _ _ _ _ { s with heap := h'.push (seqObj "list" its.toArray 0), toks := tk }
  have I2 : Inv X pins σ H { s with heap := h'.push (seqObj "list" its.toArray 0), toks := tk } := I1.kept fun b u e => Heap.get?_push_of_some _ e
  refine wpAny_bind (wpAny_holding (wpAny_call_entry slot_list_sort ⟨_, hoL, rfl⟩ entry_list_sort
    (list_sort_ord (swoK fun u => k (bV u)) (s := { s with heap := h'.push (seqObj "list" its.toArray 0), toks := tk }) hoL hz (fun h2 => sortableK (md := md) h2 (fun v hv => ?_) (fun o ho hc => ?_)) fun out hs hb => ⟨_, rfl, ?_⟩) (args_list_sort _)))
  · obtain ⟨x, hx, r⟩ := vals_mem rv v hv
    have := hky_val I2 (hk x hx) r
    rw [(hky_back (hk x hx) r).1]
    exact this
  · rw [hoL] at ho
    cases ho
    simp [seqObj] at hc
  · obtain ⟨e', he'⟩ := sortedHeap_at (vs := its) (out := out.toArray) hoL
    have hrel : ∀ u ∈ out, RelV (bV u) u := fun u hu => by
      obtain ⟨x, hx, r⟩ := vals_mem rv u (hb.perm.mem_iff.mp hu)
      exact (hky_back (hk x hx) r).2
    have hperm : (out.map bV).Perm xs := by
      have := hb.perm.map bV
      rw [vals_bV rv hk] at this
      exact this
    have hlen : (out.map bV).length ≤ sizeLine := by
      rw [List.length_map, hb.perm.length_eq]
      exact hz
    refine wpAny_pure ⟨_, rfl, .ref h'.objs.size, upd H h'.objs.size (.lst (out.map bV)), I1.laid (t' := tk) (fun b u e => by
        have hb' : b < h'.objs.size := Heap.lt_size e
        rw [sortedHeap_old (Nat.ne_of_lt hb') (by rw [size_push']; exact Nat.lt_succ_of_lt hb')]
        exact Heap.get?_push_of_some _ e) (Nat.le_refl _)
      (show ObjOk X.prog X.w _ _ _ (.lst (out.map bV)) from ⟨hlen, out, e', vals_self hrel, he'⟩), rfl, q _ _ ?_ hperm (I1.hok.fresh (Nat.le_refl _))⟩
    · refine List.pairwise_map.mpr (hs.imp fun {x y} h => ?_)
      unfold leKs
      unfold ltv at h
      rw [h]
      rfl
/-- sorted(l), l a list -/
def rSortedM (K : PySem.W.Frag) : List V → Hp → VK → Prop := fun vs H Q => ∃ (a : Addr) (xs : List V) (md : Md) (k : V → List Key), vs = [V.ref a] ∧ SqL K H a xs ∧ (∀ x ∈ xs, HKy H md x (k x)) ∧ SortQ H xs k Q
theorem cr_sortedM : CallR X (.builtin "sorted") (rSortedM X.K) := by
  intro pins s σ H vs us Q I r h
  obtain ⟨a, xs, md, k, rfl, hs, hk, q⟩ := h
  obtain ⟨its, rv, hl, hz⟩ := I.list hs
  obtain ⟨u, rfl, ru⟩ := vals1 r
  obtain rfl : u = Value.ref a := ru
  refine sort_tail I hk hz q fun R E hR => ?_
  refine collect_list hl.isList ?_ (by rw [← rv.length]; exact hz)
  exact hR _ _ _ (fun b o e => by
    rw [Heap.get?_update_ne _ _ _ _ (Nat.ne_of_lt (Heap.lt_size e))]
    exact Heap.get?_push_of_some _ e) rv
/-! ### d.keys() as a value -/
def KvO (v d : Addr) : HO := .ext fun h => PySem.W.KdlKeysView h v d
def tKeysV (td : TE) : TE := fun σ H Q => td σ H fun x H1 => ∃ d, x = .ref d ∧ IsD H1 d ∧ ∀ p, H1 p = none → Q (.ref p) (upd H1 p (KvO p d))
theorem pe_keysV {e : Expr} {td : TE} {apos cpos : Pos} (he : PE X e td) (hbase : attributeBase e "keys" X.env (eval e X.env) = eval e X.env := by rfl) (hline : (apos.endLine == cpos.line) = true := by rfl) : PE X (.Call (.Attribute e "keys" apos) [] [] cpos) (tKeysV td) := by
  refine ⟨fun pins s σ H Q I h => ?_⟩
  refine wpAny_Call_method (T := "dict") (id := "dict.keys") hbase rfl hline PySem.F.plainAttrs_dict PySem.F.slot_dict_keys PySem.F.type_dict_keys (thn (he.run pins s σ H _ I h) fun u s1 ⟨x, H1, I1, rx, d, ex, hd, q⟩ => ?_)
  subst ex
  obtain rfl : u = Value.ref d := rx
  obtain ⟨t1, t2, lo⟩ := isD_at I1 hd
  refine ⟨t1, t2, ?_⟩
  have raw : ∃ es ep, s1.heap.DictRaw d es ep := by
    rcases hd with ⟨kvs, hd⟩ | ⟨kvs, hd⟩
    · obtain ⟨z, lo, vs, rel, dd⟩ := dk_rd I1.hok hd
      obtain ⟨o, es, ep, ho, hx, hdt, _⟩ := dd
      exact ⟨es, ep, o, ho, hx, hdt⟩
    · obtain ⟨z, hs, ks, pr, o, es, ep, ho, hx, hdt, he, hn⟩ := (show ObjOk X.prog X.w H1 s1.heap d (.dT kvs) from hd.ok I1.hok)
      exact ⟨es, ep, o, ho, hx, hdt⟩
  show wpAny _ _ (callWith cpos (.builtin "dict.keys") [.ref d] [] []) _ X.xe s1
  refine method_meetsIn PySem.F.slot_dict_keys PySem.F.entry_dict_keys rfl (PySem.evalArgs_none ⟨rfl, t1, PySem.F.args_dict_keys_1 _, _, PySem.meets_dict_keys_raw d lo, raw, ?_⟩)
  refine ⟨.ref s1.heap.objs.size, upd H1 s1.heap.objs.size (KvO s1.heap.objs.size d), I1.laid (t' := s1.toks) (fun b u e => Heap.get?_push_of_some _ e) (Nat.le_refl _) ?_, rfl, q _ (I1.hok.fresh (Nat.le_refl _))⟩
  exact ⟨⟨_, Heap.get?_push_size _ rfl, rfl, rfl⟩, ⟨_, Heap.get?_push_size _ rfl⟩, fun h1 h2 ⟨o, ho, x⟩ k => ⟨o, k o ho, x⟩⟩
/-- the view of a dict with any keys, walked -/
theorem kdl_rawV {prog : Program} {w : World} {o : Obj} {es : Array DictEntry} {ep : Nat} {r d : Addr} (hx : o.ExactDict) (hd : o.data = .dict es ep) :
    PySem.W.KdlSrc prog w "dict_keys" r d es.size (fun i v => ∃ en : DictEntry, es[i]? = some en ∧ v = en.key) (fun h => PySem.W.KdlKeysView h r d ∧ h.get? d = some o) where
  type := fun _ hm => hm.1.typeIs
  there := fun _ hm => ⟨let ⟨_, ho, _⟩ := hm.1; Heap.lt_size ho, Heap.lt_size hm.2⟩
  keep := fun _ _ hm hk => ⟨let ⟨o, ho, x⟩ := hm.1; ⟨o, hk r (.inl rfl) o ho, x⟩, hk d (.inr rfl) _ hm.2⟩
  notList := by decide
  notTuple := by decide
  hint := fun _ _ s _ hm hq => PySem.W.kdl_hint_keys (s := s) hm.1.typeIs hq
  iter := fun _ s hh hm => ⟨_, _, (fun _ _ hq => PySem.wpAny_pyIter_keys_raw hm.1 ⟨o, hm.2, hx, hd⟩ hq), walks_raw hh _ d (Nat.ne_of_lt (Heap.lt_size hm.2)) hd, ⟨⟨_, Heap.get?_push_size _ rfl, rfl, rfl⟩, Heap.get?_push_of_some _ hm.2⟩⟩
theorem kv_get {v d : Addr} (I : Inv X pins σ H s) (hv : H v = some (KvO v d)) : PySem.W.KdlKeysView s.heap v d := (I.hok v _ hv).1
theorem ents_keys {prog : Program} {w : World} {es : Array DictEntry} {ks : List (List Key × Addr × Value)} {acc : Array Value} (he : es.toList = ks.map (entryOfKey (tupleKind (mixKind prog w)))) (it : ItemsOf (fun i v => ∃ en : DictEntry, es[i]? = some en ∧ v = en.key) acc es.size) : acc.toList = (ks.map fun x => x.2.1).map Value.ref := by
  have l1 : es.size = ks.length := size_of_entries he
  have ea : acc.toList = ks.map fun x => Value.ref x.2.1 := by
    have hl : acc.toList.length = ks.length := by rw [Array.length_toList, it.1]; exact l1
    apply List.ext_getElem?
    intro j
    rw [List.getElem?_map]
    cases hj : acc.toList[j]? with
    | none =>
      have h1 := List.getElem?_eq_none_iff.mp hj
      rw [List.getElem?_eq_none (by omega)]
      all_goals rfl
    | some v =>
      obtain ⟨en, hen, hv⟩ := it.2 j v (by rw [← Array.getElem?_toList]; exact hj)
      have qe := entry_at he j
      rw [hen] at qe
      cases hb : ks[j]? with
      | none =>
        rw [hb] at qe
        exact nomatch (show some en = none from qe)
      | some b =>
        rw [hb] at qe
        have e2 : en = entryOfKey (tupleKind (mixKind prog w)) b := Option.some.inj qe
        rw [hv, e2]
        all_goals rfl
  rw [ea, List.map_map]
  all_goals rfl
/-- list(d.keys()) -/
def rListV : List V → Hp → VK → Prop := fun xs H Q => ∃ v d, xs = [V.ref v] ∧ H v = some (KvO v d) ∧
  ((∃ kvs, Rd H d (.dK kvs) ∧ ∀ p, H p = none → Q (.ref p) (upd H p (.lst (kvs.map fun kv => kV kv.1)))) ∨ ∃ kvs, Rd H d (.dT kvs) ∧ ∀ p bs, H p = none → IsKeys H kvs bs → Q (.ref p) (upd H p (.lst (bs.map V.ref))))
theorem cr_listV (hc : X.calm = true) : CallR X (.type "list") rListV := by
  intro pins s σ H vs us Q I r h
  obtain ⟨v, d, rfl, hv, h⟩ := h
  obtain ⟨u, rfl, ru⟩ := vals1 r
  obtain rfl : u = Value.ref v := ru
  have hw := kv_get I hv
  rcases h with ⟨kvs, hd, q⟩ | ⟨kvs, hd, q⟩
  · obtain ⟨z, lo, vs, rel, dd⟩ := dk_rd I.hok hd
    obtain ⟨ep, hat⟩ := dd.dictAt
    have ek : (kvs.map fun kv => kV kv.1) = vs.map fun p => kV p.1 := by
      have e := congrArg (List.map kV) rel.keys
      rw [List.map_map, List.map_map] at e
      exact e
    refine PySem.W.kdl_call (PySem.W.kdl_keys (knd := mixKind X.prog X.w) (kvs := vs) (ep := ep)) (I.ok.hd hc) ⟨hw, hat⟩ (by rw [← rel.length]; exact z) fun h' tk acc c' hk hD hacc => ?_
    have hv : Vals (vs.map fun p => kV p.1) acc.toList := keys_at (by rw [Array.length_toList]; exact hacc.1) fun j v e => hacc.2 j v (by rw [← Array.getElem?_toList]; exact e)
    exact ⟨.ref s.heap.objs.size, upd H s.heap.objs.size (.lst (kvs.map fun kv => kV kv.1)), I.laid (t' := tk) hk (Nat.le_refl _)
      (show ObjOk X.prog X.w _ _ _ (.lst (kvs.map fun kv => kV kv.1)) from ⟨by rw [List.length_map]; exact z, acc.toList, c', by rw [ek]; exact hv, by rw [Array.toArray_toList]; exact hD⟩), rfl, q _ (I.hok.fresh (Nat.le_refl _))⟩
  · obtain ⟨z, hs, ks, pr, o, es, ep, ho, hx, hdt, he, hn⟩ := (show ObjOk X.prog X.w H s.heap d (.dT kvs) from hd.ok I.hok)
    have l1 : es.size = ks.length := size_of_entries he
    have l2 : kvs.length = ks.length := Paired.length pr
    refine PySem.W.kdl_call (kdl_rawV hx hdt) (I.ok.hd hc) ⟨hw, ho⟩ (by omega) fun h' tk acc' c' kp e it => ?_
    have eb := ents_keys he it
    have rv : Vals ((ks.map fun x => x.2.1).map V.ref) acc'.toList := by rw [eb]; exact vals_refs _
    have hz : ((ks.map fun x => x.2.1).map V.ref).length ≤ sizeLine := by rw [List.length_map, List.length_map]; omega
    refine ⟨.ref s.heap.objs.size, _, I.laid (t' := tk) (o := .lst ((ks.map fun x => x.2.1).map V.ref)) kp (Nat.le_refl _) ?_, rfl, q _ _ (I.hok.fresh (Nat.le_refl _)) (isKeys_of pr)⟩
    exact ⟨hz, acc'.toList, c', rv, by rw [Array.toArray_toList]; exact e⟩
/-- sorted(d.keys()) -/
def rSortedV : List V → Hp → VK → Prop := fun xs H Q => ∃ v d, xs = [V.ref v] ∧ H v = some (KvO v d) ∧
  ((∃ kvs md k, Rd H d (.dK kvs) ∧ (∀ x ∈ kvs.map fun kv => kV kv.1, HKy H md x (k x)) ∧ SortQ H (kvs.map fun kv => kV kv.1) k Q) ∨
    ∃ kvs, Rd H d (.dT kvs) ∧ ∀ bs, IsKeys H kvs bs → ∃ md k, (∀ x ∈ bs.map V.ref, HKy H md x (k x)) ∧ SortQ H (bs.map V.ref) k Q)
theorem cr_sortedV (hc : X.calm = true) : CallR X (.builtin "sorted") rSortedV := by
  intro pins s σ H vs us Q I r h
  obtain ⟨v, d, rfl, hv, h⟩ := h
  obtain ⟨u, rfl, ru⟩ := vals1 r
  obtain rfl : u = Value.ref v := ru
  have hw := kv_get I hv
  rcases h with ⟨kvs, md, k, hd, hk, q⟩ | ⟨kvs, hd, q⟩
  · obtain ⟨z, lo, vs, rel, dd⟩ := dk_rd I.hok hd
    obtain ⟨ep, hat⟩ := dd.dictAt
    have ek : (kvs.map fun kv => kV kv.1) = vs.map fun p => kV p.1 := by
      have e := congrArg (List.map kV) rel.keys
      rw [List.map_map, List.map_map] at e
      exact e
    refine sort_tail I hk (by rw [List.length_map]; exact z) q fun R E hR => ?_
    refine PySem.W.kdu_collect (PySem.W.kdl_keys (knd := mixKind X.prog X.w) (kvs := vs) (ep := ep)) (I.ok.hd hc) ⟨hw, hat⟩ (by rw [← rel.length]; exact z) fun h' tk acc hk hacc => ?_
    have hv : Vals (vs.map fun p => kV p.1) acc.toList := keys_at (by rw [Array.length_toList]; exact hacc.1) fun j v e => hacc.2 j v (by rw [← Array.getElem?_toList]; exact e)
    exact hR h' tk _ hk (by rw [ek]; exact hv)
  · obtain ⟨z, hs, ks, pr, o, es, ep, ho, hx, hdt, he, hn⟩ := (show ObjOk X.prog X.w H s.heap d (.dT kvs) from hd.ok I.hok)
    have l1 : es.size = ks.length := size_of_entries he
    have l2 : kvs.length = ks.length := Paired.length pr
    obtain ⟨md, k, hk, q⟩ := q _ (isKeys_of pr)
    refine sort_tail I hk (by rw [List.length_map, List.length_map]; omega) q fun R E hR => ?_
    refine PySem.W.kdu_collect (kdl_rawV hx hdt) (I.ok.hd hc) ⟨hw, ho⟩ (by omega) fun h' tk acc' kp it => ?_
    have eb := ents_keys he it
    have rv : Vals ((ks.map fun x => x.2.1).map V.ref) acc'.toList := by rw [eb]; exact vals_refs _
    exact hR h' tk _ kp rv
end
end Pd
namespace Pd
open PySem L2
/-! ### sorted, by meanings -/
def kB : V → Key
  | .int i => .inl i
  | .str x => .inr x
  | _ => .inl 0
theorem kB_kV : ∀ ks : List Key, (ks.map kV).map kB = ks
  | [] => rfl
  | k :: ks => by rw [List.map_cons, List.map_cons, kB_kV ks]; cases k <;> rfl
def vKs (H : Hp) : V → List Key
  | .int i => [.inl i]
  | .str x => [.inr x]
  | .ref a => match H a with
    | some (.tup ys) => ys.map kB
    | _ => []
  | _ => []
section
variable {Γ : Wd} {ρ : List Addr} {F H : Hp} {s : Sto}
theorem den_hky (g : G Γ ρ F s H) {md : Md} {d : Dt} {v : V} (h : Den Γ ρ F d v) (ok : okD md d = true) : HKy H md v (vKs H v) ∧ vKs H v = keyL d := by
  cases md <;> cases d <;> simp only [okD, Bool.false_eq_true] at ok
  · simp only [Den] at h; subst h; exact ⟨⟨_, rfl, rfl⟩, rfl⟩
  · simp only [Den] at h; obtain ⟨h, _⟩ := h; subst h; exact ⟨⟨_, rfl, rfl⟩, rfl⟩
  · rename_i sh l
    split at ok
    · rename_i ks hk
      simp only [Bool.and_eq_true, decide_eq_true_eq, Bool.not_eq_true'] at ok
      obtain ⟨b, e, hb, hok⟩ := Den.tupAt (ks := ks) g h hk
      subst e
      have e2 : vKs H (.ref b) = ks := by simp only [vKs, hb, kB_kV]
      refine ⟨⟨b, rfl, by rw [e2]; exact hb, by rw [e2]; exact ok.1, fun z => ?_⟩, by rw [e2]; simp only [keyL, hk, Option.getD_some]⟩
      rw [z] at ok
      simp at ok
    · cases ok
theorem dens_perm : ∀ {ys xs : List V}, ys.Perm xs → ∀ {l : List Dt}, Dens Γ ρ F l xs → ∃ l', l'.Perm l ∧ Dens Γ ρ F l' ys := by
  intro ys xs p
  induction p with
  | nil => exact fun {l} h => ⟨l, List.Perm.refl _, h⟩
  | cons x p ih =>
    intro l h
    cases l with
    | nil => simp only [Dens] at h; cases h
    | cons d l =>
      simp only [Dens] at h
      obtain ⟨v, r, e, q, t⟩ := h
      injection e with e1 e2
      subst e1; subst e2
      obtain ⟨l', p', t'⟩ := ih t
      exact ⟨d :: l', p'.cons d, by simp only [Dens]; exact ⟨_, _, rfl, q, t'⟩⟩
  | swap x y p =>
    intro l h
    cases l with
    | nil => simp only [Dens] at h; cases h
    | cons d l =>
      cases l with
      | nil =>
        simp only [Dens] at h
        obtain ⟨v, r, e, q, t⟩ := h
        subst t
        cases e
      | cons d2 l =>
        simp only [Dens] at h
        obtain ⟨v, r, e, q, v2, r2, e2, q2, t⟩ := h
        subst e2
        cases e
        exact ⟨d2 :: d :: l, List.Perm.swap _ _ _, by simp only [Dens]; exact ⟨_, _, rfl, q2, _, _, rfl, q, t⟩⟩
  | trans _ _ ih1 ih2 =>
    intro l h
    obtain ⟨l1, p1, t1⟩ := ih2 h
    obtain ⟨l2, p2, t2⟩ := ih1 t1
    exact ⟨l2, p2.trans p1, t2⟩
theorem sortOk_md {l : List Dt} (h : sortOk l = true) : ∃ md, ∀ d ∈ l, okD md d = true := by
  cases l with
  | nil => exact ⟨.i, fun d hd => nomatch hd⟩
  | cons d l =>
    simp only [sortOk] at h
    cases hm : mdD d with
    | some md => rw [hm] at h; exact ⟨md, List.all_eq_true.mp h⟩
    | none => rw [hm] at h; cases h
theorem dens_mem : ∀ {l : List Dt} {xs : List V}, Dens Γ ρ F l xs → ∀ x ∈ xs, ∃ d ∈ l, Den Γ ρ F d x
  | [], xs, h, x, hx => by simp only [Dens] at h; subst h; cases hx
  | d :: l, xs, h, x, hx => by
    simp only [Dens] at h
    obtain ⟨v, r, e, q, t⟩ := h
    subst e
    rcases List.mem_cons.mp hx with e | hx
    · subst e; exact ⟨d, List.mem_cons_self, q⟩
    · obtain ⟨d', h1, h2⟩ := dens_mem t x hx
      exact ⟨d', List.mem_cons_of_mem _ h1, h2⟩
theorem dens_pairwise (g : G Γ ρ F s H) {md : Md} : ∀ {l : List Dt} {ys : List V}, Dens Γ ρ F l ys → (∀ d ∈ l, okD md d = true) → ys.Pairwise (fun x y => leKs (vKs H x) (vKs H y) = true) → l.Pairwise (fun x y => leKs (keyL x) (keyL y) = true)
  | [], ys, _, _, _ => List.Pairwise.nil
  | d :: l, ys, h, ok, p => by
    simp only [Dens] at h
    obtain ⟨v, r, e, q, t⟩ := h
    subst e
    rw [List.pairwise_cons] at p
    refine List.pairwise_cons.mpr ⟨fun d' hd' => ?_, dens_pairwise g t (fun x hx => ok x (List.mem_cons_of_mem _ hx)) p.2⟩
    obtain ⟨i, hi, e⟩ := List.mem_iff_getElem.mp hd'
    obtain ⟨v', hv', q'⟩ := Dens.get (i := i) (d := d') t (by rw [List.getElem?_eq_getElem hi, e])
    have := p.1 v' (List.mem_of_getElem? hv')
    rw [(den_hky g q (ok d List.mem_cons_self)).2, (den_hky g q' (ok d' (List.mem_cons_of_mem _ hd'))).2] at this
    exact this
/-- what is asked of a sorted list is answered by the sorted data -/
theorem sortQ_of {nw : List Dt → Sto → Out Dt} (n : IsNw nw) {Q : VK} {E : Value → Hp → Prop} {l : List Dt} {xs : List V} (g : G Γ ρ F s H) (t : Dens Γ ρ F l xs) (hz : l.length ≤ sizeLine) (ok : sortOk l = true) (k : EPo Γ ρ F H Q E (nw (sortK keyL l) s)) :
    ∃ md, (∀ x ∈ xs, HKy H md x (vKs H x)) ∧ SortQ H xs (vKs H) Q := by
  obtain ⟨md, hok⟩ := sortOk_md ok
  refine ⟨md, fun x hx => ?_, fun ys p hp hperm hn => ?_⟩
  · obtain ⟨d, hd, q⟩ := dens_mem t x hx
    exact (den_hky g q (hok d hd)).1
  · obtain ⟨l', p', t'⟩ := dens_perm hperm t
    have hok' : ∀ d ∈ l', okD md d = true := fun d hd => hok d (p'.mem_iff.mp hd)
    have e : l' = sortK keyL l := sorted_unique keyL (p'.trans (sortK_perm keyL l).symm) (fun a ha b hb e => okD_inj (hok' a ha) (hok' b hb) e) (dens_pairwise g t' hok' hp) (sortK_sorted keyL l)
    subst e
    exact new_lst n g t' (by rw [(sortK_perm keyL l).length_eq]; exact hz) hn k
end
def dSorted (nw : List Dt → Sto → Out Dt) (d : Dt) (s : Sto) : Out Dt := match asL s d with
  | some l => if sortOk l = true then nw (sortK keyL l) s else .bad
  | none => .bad
section
variable {J : Cn} {X : Cx} {W : WX} {a b c e e2 : Expr} {es : List Expr} {fa fb fc fe : Ex} {fs : List Ex} {pos p p2 apos cpos : Pos}
theorem b_sorted {nw : List Dt → Sto → Out Dt} (n : IsNw nw) : B1 J X (.builtin "sorted") (dSorted nw) := ⟨_, cr_sortedM, fun ρ F s H x dx Q E g rx k => by
  unfold dSorted at k
  split at k
  · rename_i l hl
    split at k
    · rename_i hok
      obtain ⟨a, xs, e1, q, t, z⟩ := g.sqL rx hl
      subst e1
      obtain ⟨md, h1, h2⟩ := sortQ_of n g t z hok k
      exact ⟨a, xs, md, _, rfl, q, h1, h2⟩
    · exact False.elim k
  · exact False.elim k⟩
/-- the keys of a dict of the store, as data -/
def keysOf (s : Sto) : Dt → Option (List Dt)
  | .obj i => match s[i]? with
    | some (.dic kvs) => some (kvs.map fun kv => keyDt kv.1)
    | some (.dicL kvs) => some (kvs.map fun kv => keyDt kv.1)
    | some (.dit kvs) => if kvs.all (fun kv => decide (kv.1.length ≤ 1000)) = true then some (kvs.map fun kv => keysDt kv.1) else none
    | some (.ditL kvs) => if kvs.all (fun kv => decide (kv.1.length ≤ 1000)) = true then some (kvs.map fun kv => keysDt kv.1) else none
    | _ => none
  | _ => none
section
variable {Γ : Wd} {ρ : List Addr} {F H : Hp} {s : Sto}
theorem G.adoptAll : ∀ {bs : List Addr} {F : Hp}, G Γ ρ F s H → (∀ b ∈ bs, ∃ xs, H b = some (.tup xs)) → ∃ F', LE ρ F H ρ F' H ∧ G Γ ρ F' s H ∧ ∀ b ∈ bs, ∀ xs, H b = some (.tup xs) → F' b = some (.tup xs)
  | [], F, g, _ => ⟨F, LE.refl, g, fun b hb => nomatch hb⟩
  | b :: bs, F, g, h => by
    obtain ⟨xs, hb⟩ := h b List.mem_cons_self
    obtain ⟨F1, l1, g1, h1⟩ := g.adopt hb
    obtain ⟨F2, l2, g2, h2⟩ := G.adoptAll (bs := bs) g1 fun c hc => h c (List.mem_cons_of_mem _ hc)
    refine ⟨F2, l1.trans l2, g2, fun c hc ys hys => ?_⟩
    rcases List.mem_cons.mp hc with e | hc
    · subst e
      rw [hb] at hys
      cases hys
      exact l2.ld.sub _ _ h1
    · exact h2 c hc ys hys
theorem denK_keys {κ : Type} : ∀ {kvs : List (κ × Dt)} {vs : List (κ × V)}, DenK Γ ρ F kvs vs → kvs.map (·.1) = vs.map (·.1)
  | [], vs, h => by simp only [DenK] at h; subst h; rfl
  | (f, d) :: r, vs, h => by
    obtain ⟨w, r', e1, q, t⟩ := h
    subst e1
    rw [List.map_cons, List.map_cons, denK_keys t]
theorem dens_keysK : ∀ {ks : List Key}, (∀ k ∈ ks, kOk k = true) → Dens Γ ρ F (ks.map keyDt) (ks.map kV)
  | [], _ => by simp only [List.map_nil, Dens]
  | k :: ks, h => by
    simp only [List.map_cons, Dens]
    exact ⟨_, _, rfl, Den.ofKey (h k List.mem_cons_self), dens_keysK fun x hx => h x (List.mem_cons_of_mem _ hx)⟩
theorem dens_keysT {F' : Hp} {kvs : List (List Key × V)} {bs : List Addr} (hk : IsKeys H kvs bs) (hF : ∀ b ∈ bs, ∀ xs, H b = some (.tup xs) → F' b = some (.tup xs)) (h1 : ∀ kv ∈ kvs, kv.1.all kOk = true) (h2 : ∀ kv ∈ kvs, kv.1.length ≤ 1000) : Dens Γ ρ F' (kvs.map fun kv => keysDt kv.1) (bs.map V.ref) := by
  unfold IsKeys at hk
  induction hk with
  | nil => simp only [List.map_nil, Dens]
  | @cons p b ps bs hb t ih =>
    simp only [List.map_cons, Dens]
    refine ⟨_, _, rfl, ?_, ih (fun c hc => hF c (List.mem_cons_of_mem _ hc)) (fun kv hkv => h1 kv (List.mem_cons_of_mem _ hkv)) fun kv hkv => h2 kv (List.mem_cons_of_mem _ hkv)⟩
    simp only [keysDt, Den]
    refine ⟨?_, b, _, rfl, hF b List.mem_cons_self _ hb, Dens.ofKeys (h1 p List.mem_cons_self)⟩
    have := h2 p List.mem_cons_self
    rw [List.length_map, sizeLine_eq]
    omega
/-- the view's keys as data: of plain keys, or of tuples that may be adopted -/
theorem G.keysAt (g : G Γ ρ F s H) {d : Dt} {v : V} {l : List Dt} (r : Den Γ ρ F d v) (h : keysOf s d = some l) : ∃ a, v = .ref a ∧ IsD H a ∧ l.length ≤ sizeLine ∧
    ((∃ kvs, Rd H a (.dK kvs) ∧ Dens Γ ρ F l (kvs.map fun kv => kV kv.1)) ∨ ∃ kvs, Rd H a (.dT kvs) ∧ ∀ H1 bs, (∀ b xs, H1 b = some (.tup xs) → H b = some (.tup xs)) → IsKeys H1 kvs bs → (∀ b ∈ bs, ∃ xs, H1 b = some (.tup xs)) ∧ ∀ F', (∀ b ∈ bs, ∀ xs, H1 b = some (.tup xs) → F' b = some (.tup xs)) → Dens Γ ρ F' l (bs.map V.ref)) := by
  have memK : ∀ {kvs : List (List Key × V)} {bs : List Addr} {H1 : Hp}, IsKeys H1 kvs bs → ∀ b ∈ bs, ∃ xs, H1 b = some (.tup xs) := fun {kvs bs H1} hk => by
    unfold IsKeys at hk
    induction hk with
    | nil => exact fun b hb => nomatch hb
    | cons h t ih =>
      intro b hb
      rcases List.mem_cons.mp hb with e | hb
      · subst e; exact ⟨_, h⟩
      · exact ih b hb
  have goK : ∀ (i : Nat) (kvs : List (Key × Dt)) (a : Addr) (vs : List (Key × V)), (kvs.length ≤ sizeLine ∧ ∀ kv ∈ kvs, kOk kv.1 = true) → Rd H a (.dK vs) → DenK Γ ρ F kvs vs → some (kvs.map fun kv => keyDt kv.1) = some l → v = .ref a →
      ∃ a, v = .ref a ∧ IsD H a ∧ l.length ≤ sizeLine ∧ ((∃ kvs, Rd H a (.dK kvs) ∧ Dens Γ ρ F l (kvs.map fun kv => kV kv.1)) ∨ ∃ kvs, Rd H a (.dT kvs) ∧ ∀ H1 bs, (∀ b xs, H1 b = some (.tup xs) → H b = some (.tup xs)) → IsKeys H1 kvs bs → (∀ b ∈ bs, ∃ xs, H1 b = some (.tup xs)) ∧ ∀ F', (∀ b ∈ bs, ∀ xs, H1 b = some (.tup xs) → F' b = some (.tup xs)) → Dens Γ ρ F' l (bs.map V.ref)) := fun i kvs a vs ⟨z1, z2⟩ hx t e ea => by
    injection e with e
    subst e
    refine ⟨a, ea, .inl ⟨vs, hx⟩, by rw [List.length_map]; exact z1, .inl ⟨vs, hx, ?_⟩⟩
    have e1 : (kvs.map fun kv => keyDt kv.1) = (kvs.map (·.1)).map keyDt := by rw [List.map_map]; rfl
    have e2 : (vs.map fun kv => kV kv.1) = (vs.map (·.1)).map kV := by rw [List.map_map]; rfl
    rw [e1, e2, ← denK_keys t]
    refine dens_keysK fun k hk => ?_
    obtain ⟨kv, hkv, e⟩ := List.mem_map.mp hk
    rw [← e]
    exact z2 kv hkv
  have goT : ∀ (i : Nat) (kvs : List (List Key × Dt)) (a : Addr) (vs : List (List Key × V)), (kvs.length ≤ sizeLine ∧ ∀ kv ∈ kvs, kv.1.all kOk = true) → Rd H a (.dT vs) → DenK Γ ρ F kvs vs → (if kvs.all (fun kv => decide (kv.1.length ≤ 1000)) = true then some (kvs.map fun kv => keysDt kv.1) else none) = some l → v = .ref a →
      ∃ a, v = .ref a ∧ IsD H a ∧ l.length ≤ sizeLine ∧ ((∃ kvs, Rd H a (.dK kvs) ∧ Dens Γ ρ F l (kvs.map fun kv => kV kv.1)) ∨ ∃ kvs, Rd H a (.dT kvs) ∧ ∀ H1 bs, (∀ b xs, H1 b = some (.tup xs) → H b = some (.tup xs)) → IsKeys H1 kvs bs → (∀ b ∈ bs, ∃ xs, H1 b = some (.tup xs)) ∧ ∀ F', (∀ b ∈ bs, ∀ xs, H1 b = some (.tup xs) → F' b = some (.tup xs)) → Dens Γ ρ F' l (bs.map V.ref)) := fun i kvs a vs ⟨z1, z2⟩ hx t e ea => by
    split at e
    · rename_i hl
      injection e with e
      subst e
      refine ⟨a, ea, .inr ⟨vs, hx⟩, by rw [List.length_map]; exact z1, .inr ⟨vs, hx, fun H1 bs hH hk => ⟨memK hk, fun F' hF => ?_⟩⟩⟩
      have e1 : (kvs.map fun kv => keysDt kv.1) = vs.map fun kv => keysDt kv.1 := by
        have := congrArg (List.map keysDt) (denK_keys t)
        rw [List.map_map, List.map_map] at this
        exact this
      have memv : ∀ kv ∈ vs, ∃ kv' ∈ kvs, kv'.1 = kv.1 := fun kv hkv => by
        have : kv.1 ∈ kvs.map (·.1) := by rw [denK_keys t]; exact List.mem_map.mpr ⟨kv, hkv, rfl⟩
        obtain ⟨kv', h1, h2⟩ := List.mem_map.mp this
        exact ⟨kv', h1, h2⟩
      rw [e1]
      exact dens_keysT hk hF (fun kv hkv => by obtain ⟨kv', h1, h2⟩ := memv kv hkv; rw [← h2]; exact z2 kv' h1) (fun kv hkv => by obtain ⟨kv', h1, h2⟩ := memv kv hkv; rw [← h2]; simpa using List.all_eq_true.mp hl kv' h1)
    · cases e
  cases d with
  | obj i =>
    simp only [Den] at r
    obtain ⟨a, ea, q⟩ := r
    simp only [keysOf] at h
    split at h
    · rename_i kvs hs
      obtain ⟨z, vs, hx, t⟩ := g.at_ i a _ q hs
      exact goK i kvs a vs z (.inl hx) t h ea
    · rename_i kvs hs
      obtain ⟨z, od, vs, hx, t⟩ := g.at_ i a _ q hs
      exact goK i kvs a vs z (.inr ⟨od, hx.1⟩) t h ea
    · rename_i kvs hs
      obtain ⟨z, vs, hx, t⟩ := g.at_ i a _ q hs
      exact goT i kvs a vs z (.inl hx) t h ea
    · rename_i kvs hs
      obtain ⟨z, od, vs, hx, t⟩ := g.at_ i a _ q hs
      exact goT i kvs a vs z (.inr ⟨od, hx.1⟩) t h ea
    · cases h
  | _ => simp [keysOf] at h
end
def dListK (nw : List Dt → Sto → Out Dt) (d : Dt) (s : Sto) : Out Dt := match keysOf s d with
  | some l => nw l s
  | none => .bad
def dSortK (nw : List Dt → Sto → Out Dt) (d : Dt) (s : Sto) : Out Dt := match keysOf s d with
  | some l => if sortOk l = true then nw (sortK keyL l) s else .bad
  | none => .bad
theorem upd_tup {H : Hp} {p v d : Addr} (hp : H p = none) {b : Addr} {xs : List V} (h : upd H p (KvO v d) b = some (.tup xs)) : H b = some (.tup xs) := by
  by_cases e : b = p
  · subst e; rw [upd_same] at h; cases h
  · rw [upd_ne e] at h; exact h
theorem rd_upd {H : Hp} {p a : Addr} {o u : HO} (hp : H p = none) (h : Rd H a u) : Rd (upd H p o) a u := by
  rcases h with h | ⟨od, h⟩
  · exact .inl (upd_keep hp h)
  · exact .inr ⟨od, upd_keep hp h⟩
theorem es_listK {nw : List Dt → Sto → Out Dt} (n : IsNw nw) (hc : X.calm = true) (hg : Gl X "list") (hm : X.mg "list" = none) (hv : bootBuiltins "list" = some (.type "list")) (ha : ES J X W e fe) (hn : ("list" : Str) ≠ "__name__" := by decide) (hdb : (("list" : Str) == ("__debug__" : Str)) = false := by decide)
    (he : starEach [.Call (.Attribute e "keys" apos) [] [] cpos] X.env = (false, eval (.Call (.Attribute e "keys" apos) [] [] cpos) X.env) :: starEach [] X.env := by rfl) (hbase : attributeBase e "keys" X.env (eval e X.env) = eval e X.env := by rfl) (hline : (apos.endLine == cpos.line) = true := by rfl) :
    ES J X W (.Call (.Name "list" p) [.Call (.Attribute e "keys" apos) [] [] cpos] [] pos) (eUn (dListK nw) fe) :=
  PE.imp (pe_callTy (cr_listV hc) hg hm hv (pa_cons (pe_keysV ha hbase hline) pa_nil he) hn hdb he rfl) fun σ H Q ⟨env, ρ, F, s, g, l, k⟩ => ⟨env, ρ, F, s, g, l, Po.bind k fun x s1 ρ1 F1 H1 v e1 l1 g1 r1 k1 => by
    unfold dListK at k1
    split at k1
    · rename_i ls hk
      obtain ⟨a, ea, hd, hz, h⟩ := g1.keysAt r1 hk
      refine ⟨a, ea, hd, fun p hp => ⟨p, a, rfl, upd_same, ?_⟩⟩
      have g2 := g1.skip (KvO p a) hp
      have l2 : LE ρ1 F1 H1 ρ1 F1 (upd H1 p (KvO p a)) := LE.skip hp
      rcases h with ⟨kvs, hr, t⟩ | ⟨kvs, hr, t⟩
      · exact .inl ⟨kvs, rd_upd hp hr, fun q hq => new_lst n g2 t hz hq (k1.mono l2 (fun _ _ z => z) fun _ _ z => z)⟩
      · refine .inr ⟨kvs, rd_upd hp hr, fun q bs hq hb => ?_⟩
        obtain ⟨h1, h2⟩ := t _ bs (fun b xs z => upd_tup hp z) hb
        obtain ⟨F3, l3, g3, h3⟩ := g2.adoptAll h1
        exact new_lst n g3 (h2 F3 h3) hz hq (k1.mono (l2.trans l3) (fun _ _ z => z) fun _ _ z => z)
    · exact False.elim k1⟩
theorem es_sortK {nw : List Dt → Sto → Out Dt} (n : IsNw nw) (hc : X.calm = true) (hg : Gl X "sorted") (hm : X.mg "sorted" = none) (hv : bootBuiltins "sorted" = some (.builtin "sorted")) (ha : ES J X W e fe) (hn : ("sorted" : Str) ≠ "__name__" := by decide) (hdb : (("sorted" : Str) == ("__debug__" : Str)) = false := by decide)
    (he : starEach [.Call (.Attribute e "keys" apos) [] [] cpos] X.env = (false, eval (.Call (.Attribute e "keys" apos) [] [] cpos) X.env) :: starEach [] X.env := by rfl) (hbase : attributeBase e "keys" X.env (eval e X.env) = eval e X.env := by rfl) (hline : (apos.endLine == cpos.line) = true := by rfl) :
    ES J X W (.Call (.Name "sorted" p) [.Call (.Attribute e "keys" apos) [] [] cpos] [] pos) (eUn (dSortK nw) fe) :=
  PE.imp (pe_callB (cr_sortedV hc) hg hm hv (pa_cons (pe_keysV ha hbase hline) pa_nil he) hn hdb he rfl) fun σ H Q ⟨env, ρ, F, s, g, l, k⟩ => ⟨env, ρ, F, s, g, l, Po.bind k fun x s1 ρ1 F1 H1 v e1 l1 g1 r1 k1 => by
    unfold dSortK at k1
    split at k1
    · rename_i ls hk
      split at k1
      · rename_i hok
        obtain ⟨a, ea, hd, hz, h⟩ := g1.keysAt r1 hk
        refine ⟨a, ea, hd, fun p hp => ⟨p, a, rfl, upd_same, ?_⟩⟩
        have g2 := g1.skip (KvO p a) hp
        have l2 : LE ρ1 F1 H1 ρ1 F1 (upd H1 p (KvO p a)) := LE.skip hp
        rcases h with ⟨kvs, hr, t⟩ | ⟨kvs, hr, t⟩
        · obtain ⟨md, h1, h2⟩ := sortQ_of (Q := Q) (E := fun c H' => W c none σ H') n g2 t hz hok (k1.mono l2 (fun _ _ z => z) fun _ _ z => z)
          exact .inl ⟨kvs, md, _, rd_upd hp hr, h1, h2⟩
        · refine .inr ⟨kvs, rd_upd hp hr, fun bs hb => ?_⟩
          obtain ⟨h1, h2⟩ := t _ bs (fun b xs z => upd_tup hp z) hb
          obtain ⟨F3, l3, g3, h3⟩ := g2.adoptAll h1
          obtain ⟨md, h4, h5⟩ := sortQ_of (Q := Q) (E := fun c H' => W c none σ H') n g3 (h2 F3 h3) hz hok (k1.mono (l2.trans l3) (fun _ _ z => z) fun _ _ z => z)
          exact ⟨md, _, h4, h5⟩
      · exact False.elim k1
    · exact False.elim k1⟩
end
end Pd
namespace Pd
open PySem L2
/-! ### sets of texts, made of a list -/
/-- the first of each -/
def uniq (xs : List Str) : List Str := xs.foldl (fun a x => if x ∈ a then a else a ++ [x]) []
theorem uniq_snoc (xs : List Str) (x : Str) : uniq (xs ++ [x]) = if x ∈ uniq xs then uniq xs else uniq xs ++ [x] := by
  unfold uniq
  rw [List.foldl_append]
  rfl
theorem uniq_mem (xs : List Str) (y : Str) : y ∈ uniq xs ↔ y ∈ xs := by
  have go : ∀ (l a : List Str), y ∈ l.foldl (fun a x => if x ∈ a then a else a ++ [x]) a ↔ y ∈ a ∨ y ∈ l := by
    intro l
    induction l with
    | nil => intro a; simp
    | cons x l ih =>
      intro a
      rw [List.foldl_cons, ih]
      by_cases h : x ∈ a
      · rw [if_pos h, List.mem_cons]
        constructor
        · rintro (h1 | h1)
          · exact .inl h1
          · exact .inr (.inr h1)
        · rintro (h1 | h1 | h1)
          · exact .inl h1
          · rw [h1]; exact .inl h
          · exact .inr h1
      · rw [if_neg h, List.mem_append, List.mem_singleton, List.mem_cons, or_assoc]
  have := go xs []
  simpa [uniq] using this
theorem uniq_len (xs : List Str) : (uniq xs).length ≤ xs.length := by
  have go : ∀ (l a : List Str), (l.foldl (fun a x => if x ∈ a then a else a ++ [x]) a).length ≤ a.length + l.length := by
    intro l
    induction l with
    | nil => intro a; simp
    | cons x l ih =>
      intro a
      rw [List.foldl_cons]
      by_cases h : x ∈ a
      · rw [if_pos h, List.length_cons]
        have := ih a
        omega
      · rw [if_neg h, List.length_cons]
        have := ih (a ++ [x])
        rw [List.length_append, List.length_singleton] at this
        omega
  have := go xs []
  simpa [uniq] using this
section
open PySem.Spec PyProof.Rows
variable {prog : Program} {w : World} {A : Around}
/-- what a set of texts at S tells -/
abbrev TxS (prog : Program) (w : World) (h : Heap) (S : Addr) (xs : List Str) : Prop := h.SetOf (PySem.strKind prog w) S (fun k => decide (k ∈ uniq xs)) (uniq xs).length
theorem TxS.keeps {h h' : Heap} {S : Addr} {xs : List Str} (t : TxS prog w h S xs) (k : ∀ o, h.get? S = some o → h'.get? S = some o) : TxS prog w h' S xs := by
  obtain ⟨o, es, ep, tb, ho, r⟩ := t
  exact ⟨o, es, ep, tb, k o ho, r⟩
theorem TxS.add {h : Heap} {S : Addr} {xs : List Str} {x : Str} (t : h.SetOf (PySem.strKind prog w) S (fun k => decide (k ∈ uniq xs) || decide (k = x)) (if decide (x ∈ uniq xs) = true then (uniq xs).length else (uniq xs).length + 1)) : TxS prog w h S (xs ++ [x]) := by
  refine SetOf_congr t (fun k => ?_) ?_
  · rw [uniq_snoc, Bool.eq_iff_iff, Bool.or_eq_true, decide_eq_true_eq, decide_eq_true_eq, decide_eq_true_eq]
    by_cases hx : x ∈ uniq xs
    · rw [if_pos hx]
      exact ⟨fun z => z.elim id (fun e => by rw [e]; exact hx), .inl⟩
    · rw [if_neg hx, List.mem_append, List.mem_singleton]
  · rw [uniq_snoc]
    by_cases hx : x ∈ uniq xs
    · rw [if_pos hx, if_pos (decide_eq_true hx)]
    · rw [if_neg hx, if_neg (by simpa using hx), List.length_append]
      rfl
section
variable {R : Result → Shared → Prop} {I : Addr} {fp wr : List Addr} {G : Array GenState → Array GenState → Prop} {n : Nat} {P : Nat → Value → Prop} {St : Nat → Shared → Prop}
theorem take_snoc {xs : List Str} {i : Nat} (h : i < xs.length) : xs.take (i + 1) = xs.take i ++ [xs.getD i Str.empty] := by
  rw [List.take_add_one, List.getElem?_eq_getElem h, List.getD_eq_getElem?_getD, List.getElem?_eq_getElem h]
  rfl
theorem loop_txt (W : WalksS prog w A.in1 I fp wr G n P St) (S : Addr) (hS : S ∉ fp) (xs : List Str) (hn : xs.length = n) (hb : n + 1 < scanBound) (hv : ∀ i v, P i v → ∃ t, v = .str (xs.getD i Str.empty) t) :
    ∀ (k i : Nat) (s : Shared), n - i = k → i ≤ n → St i s → TxS prog w s.heap S (xs.take i) → (∀ s', Moved (S :: wr) G s s' → TxS prog w s'.heap S xs → R (.ok (.ret .none)) s') →
      codeAny (model prog w) A (.builtin "set.update.loop" ⟨[.ref S, .ref I], []⟩) R s := by
  have hw : S ∉ wr := fun h => hS (W.sub _ h)
  have sb : ∀ b ∈ wr, b ∈ S :: wr := fun b h => List.mem_cons_of_mem _ h
  intro k
  induction k with
  | zero =>
    intro i s hk hi st ts fin
    obtain rfl : i = n := by omega
    refine codeAny_builtin PyProof.Rows.F.entry_set_update_loop ?_
    rw [Around.under_plainId PyProof.Rows.F.plain_set_update_loop _]
    show wpAny _ A.in1 (pyNext (.ref I) >>= _) _ _ s
    refine wpAny_bind (W.done s _ _ st fun s' m => ?_)
    show wpAny _ A.in1 (ret Value.none) _ _ s'
    refine wpAny_pure (fin s' (m.mono sb) ?_)
    rw [← hn, List.take_length] at ts
    exact ts.keeps fun o e => m.heap S o hw e
  | succ k ih =>
    intro i s hk hi st ts fin
    have lt : i < n := by omega
    refine codeAny_builtin PyProof.Rows.F.entry_set_update_loop ?_
    rw [Around.under_plainId PyProof.Rows.F.plain_set_update_loop _]
    show wpAny _ A.in1 (pyNext (.ref I) >>= _) _ _ s
    refine wpAny_bind (W.item i s _ _ lt st fun v s' hp st' m => ?_)
    obtain ⟨t, rfl⟩ := hv i v hp
    have ts' := ts.keeps (h' := s'.heap) fun o e => m.heap S o hw e
    show wpAny _ A.in1 (holding [Value.str (xs.getD i Str.empty) t] (setAdd S (.str (xs.getD i Str.empty) t)) >>= _) _ _ s'
    refine wpAny_bind (wpAny_holding ?_)
    unfold setAdd
    refine wpAny_holding ?_
    refine wpAny_bind ((PySem.strKind prog w).pyHash (k := xs.getD i Str.empty) (strKind_is _ _ _ _) ?_)
    have room : (uniq (xs.take i)).length + 1 < scanBound := by
      have := uniq_len (xs.take i)
      rw [List.length_take] at this
      omega
    refine wpAny_setAddHashed_of (knd := PySem.strKind prog w) (s := { s' with toks := s'.toks + 1 }) (strKind_is _ _ _ _) rfl ts' room fun h' same new => ?_
    have ts2 : TxS prog w h' S (xs.take (i + 1)) := by
      rw [take_snoc (by omega)]
      exact TxS.add new
    refine wpAny_pure ⟨plainId_quiet PyProof.Rows.F.plain_set_update_loop _, ih (i + 1) _ (by omega) lt (W.frame _ s' _ _ st' (Nat.le_succ _) fun b hb o e => ?_) ts2 fun s2 m2 ts3 => ?_⟩
    · rw [same.2 b (fun z => hS (by rw [← z]; exact hb))]
      exact e
    · refine fin s2 (Moved.trans W.gtrans ((m.mono sb).then_heap (Nat.le_succ _) fun b o hb e => ?_) m2) ts3
      rw [same.2 b (fun z => hb (by rw [z]; exact List.mem_cons_self))]
      exact e
end
section
variable {E : Value → Shared → Prop} {s : Shared}
/-- set(xs), xs a list of texts -/
theorem call_set_txt {l : Addr} {items : Array Value} {xs : List Str} {Q : Value → Shared → Prop} (hh : A.handled = none) (hl : s.heap.IsList l items) (hi : PyProof.Rows.StrsAre items.toList xs) (hb : xs.length + 1 < scanBound)
    (h : ∀ (h' : Heap) (tk : Nat), TxS prog w h' s.heap.objs.size xs → (∀ b o, b < s.heap.objs.size → s.heap.get? b = some o → h'.get? b = some o) → Q (.ref s.heap.objs.size) { s with heap := h', toks := tk }) :
    wpAny (model prog w) A (call (.type "set") [.ref l]) Q E s := by
  obtain ⟨c, tl, hmro⟩ := PySem.F.called_set.mro
  have hmade := PySem.F.called_set.made
  have hsub := PySem.F.called_set.sub
  refine wpAny_call (codeAny_of_tree ?_)
  show wpAny _ _ (callAny (.type "set") _) _ _ _
  refine wpAny_pure ⟨Code.quiet_builtin _ (by decide +kernel), codeAny_builtin PySem.F.entry_type_call ?_⟩
  rw [Around.under_plain (weight_type_call_type "set" [.ref l] []) rfl]
  have h1 := PySem.F.called_set.notType
  have h2 := PySem.F.called_set.canCreate
  have hct := PySem.F.typeCall_set_1 (.ref l)
  repeat (any_goals (first | assumption | wp_step))
  refine codeAny_mono (code_set_new_1 (.ref l) (E := E) (Q₁ := fun obj s₁ => ∃ led : Bool, obj = .ref s.heap.objs.size ∧ s₁ = { s with heap := s.heap.push { cls := .type "set", dict := none, data := .set #[] 0 (.fresh 0 0 led) } }) fun led => ⟨led, rfl, rfl⟩) fun r s₁ hr => ?_
  cases r with
  | error e => exact hr
  | ok fl =>
    cases fl with
    | ret obj =>
      obtain ⟨led, rfl, rfl⟩ := hr
      have g0 : (s.heap.push { cls := .type "set", dict := none, data := .set #[] 0 (.fresh 0 0 led) }).get? s.heap.objs.size = some { cls := .type "set", dict := none, data := .set #[] 0 (.fresh 0 0 led) } := Heap.get?_push_size _ rfl
      have hT : Shared.TypeIs { s with heap := s.heap.push { cls := .type "set", dict := none, data := .set #[] 0 (.fresh 0 0 led) } } (.ref s.heap.objs.size) "set" := ⟨_, g0, rfl⟩
      have hli := PySem.F.called_set.init.lookup
      have hbi := PySem.F.called_set.init.bind (.ref s.heap.objs.size)
      repeat (any_goals (first | assumption | wp_step))
      refine codeAny_mono (codeAny_call_builtin (R := wants (fun r s₂ => r = .none ∧ ∃ h' tk, s₂ = { s with heap := h', toks := tk } ∧ TxS prog w h' s.heap.objs.size xs ∧ (∀ b o, b < s.heap.objs.size → s.heap.get? b = some o → h'.get? b = some o)) E) PySem.F.called_set.init.plain PySem.F.entry_set_init (check_set_init_1 hT ?_)) fun r₂ s₂ hr₂ => ?_
      · obtain ⟨⟨ocls, odict, odata, oslots⟩, hol, hcl, nl, hdl⟩ := hl
        simp only at hcl hdl
        subst hcl; subst hdl
        have hol' : (s.heap.push { cls := .type "set", dict := none, data := .set #[] 0 (.fresh 0 0 led) }).get? l = some { cls := .type "list", dict := odict, data := .seq items nl, slots := oslots } := Heap.get?_push_of_some _ hol
        have hsls := PySem.F.sub_list_set
        have hslf := PySem.F.sub_list_frozenset
        have hne : (Value.type "list" == Value.type "dict") = false := by decide
        have hl1 : (s.heap.push { cls := .type "set", dict := none, data := .set #[] 0 (.fresh 0 0 led) }).IsList l items := ⟨_, hol', rfl, nl, rfl⟩
        unfold Builtin.«set.__init__» noKeywords Builtin.Frozenset.updateFrom
        generalize hPI : pyIter = PI
        wp_walk
        subst hPI
        refine wpAny_pyIter_list hl1 ?_
        refine wpAny_bind (wpAny_runValue ?_)
        have lS : l < s.heap.objs.size := Heap.lt_size hol
        have hh3 : A.in1.in1.in1.handled = none := by simp [hh]
        have sz1 : (s.heap.push { cls := .type "set", dict := none, data := .set #[] 0 (.fresh 0 0 led) }).objs.size = s.heap.objs.size + 1 := Heap.size_push ..
        have ne1 : l ≠ (s.heap.push { cls := .type "set", dict := none, data := .set #[] 0 (.fresh 0 0 led) }).objs.size := by rw [sz1]; exact Nat.ne_of_lt (Nat.lt_succ_of_lt lS)
        have no : s.heap.objs.size ∉ [(s.heap.push { cls := .type "set", dict := none, data := .set #[] 0 (.fresh 0 0 led) }).objs.size, l] := by
          rw [sz1]
          simp only [List.mem_cons, List.not_mem_nil, or_false, not_or]
          exact ⟨Nat.ne_of_lt (Nat.lt_succ_self _), Nat.ne_of_gt lS⟩
        have len : xs.length = items.size := by rw [← StrsAre.len_eq hi, Array.length_toList]
        refine loop_txt ((Walks.list hh3 _ l ne1 items).toS) s.heap.objs.size no xs len (by rw [← len]; exact hb) (fun i v e => SS.strs_at hi i v (by rw [Array.getElem?_toList]; exact e)) (items.size - 0) 0 _ (by omega) (Nat.zero_le _)
          ⟨⟨_, Heap.get?_push_size _ rfl, rfl, rfl⟩, (hl1.push _)⟩ ?_ ?_
        · have g1 : ((s.heap.push { cls := .type "set", dict := none, data := .set #[] 0 (.fresh 0 0 led) }).push { cls := .type "list_iterator", data := .fields #[.ref l, .int 0 0] }).get? s.heap.objs.size
              = some { cls := .type "set", dict := none, data := .set #[] 0 (.fresh 0 0 led) } := Heap.get?_push_of_some _ g0
          exact SetOf_congr ((PyProof.Rows.setObjOf_fresh (knd := PySem.strKind prog w) led).setOf g1 (by unfold scanBound; omega)) (fun _ => rfl) rfl
        · intro s' m ts
          obtain ⟨h', g', d', tk', os'⟩ := s'
          have eg : g' = s.gens := m.gens
          have ed : d' = s.drawn := m.drawn
          have eo : os' = s.os := m.os
          subst eg; subst ed; subst eo
          show wpAny _ _ _ _ _ _
          refine wpAny_pure ?_
          show wpAny _ _ (ret Value.none) _ _ _
          refine wpAny_pure ⟨rfl, h', tk', rfl, ts, fun b o hb e => ?_⟩
          refine m.heap b o ?_ (Heap.get?_push_of_some _ (Heap.get?_push_of_some _ e))
          simp only [List.mem_cons, List.not_mem_nil, or_false, not_or]
          exact ⟨Nat.ne_of_lt hb, by rw [sz1]; exact Nat.ne_of_lt (Nat.lt_succ_of_lt hb)⟩
      · cases r₂ with
        | error e => exact hr₂
        | ok fl₂ =>
          cases fl₂ with
          | ret r =>
            obtain ⟨rfl, h', tk, rfl, hS', hk'⟩ := hr₂
            repeat (any_goals (first | assumption | wp_step))
            exact h _ _ hS' hk'
          | _ => exact hr₂.elim
    | _ => exact hr.elim
end
end
section
variable {J : Cn} {X : Cx} {W : WX} {a e : Expr} {fa fe : Ex} {p p2 q pos p1 p3 : Pos}
def tLenTx (K : PySem.W.Frag) (ta : TE) : TE := fun σ H Q => ta σ H fun x H1 => ∃ l, ∃ xs : List Str, x = .ref l ∧ SqL K H1 l (xs.map V.str) ∧ xs.length ≤ 4000 ∧ Q (.int (uniq xs).length) H1
open PySem.Spec PyProof.Rows in
theorem pe_lenTx {ta : TE} (hc : X.calm = true) (hg : Gl X "len") (hm : X.mg "len" = none) (hg2 : Gl X "set") (hm2 : X.mg "set" = none) (ha : PE X a ta)
    (na : starEach [a] X.env = (false, eval a X.env) :: starEach [] X.env := by rfl) : PE X (.Call (.Name "len" p) [.Call (.Name "set" p2) [a] [] q] [] pos) (tLenTx X.K ta) := by
  refine ⟨fun pins s σ H Q I h => ?_⟩
  refine Call_ (ld_blt I hg hm boot_len ?_)
  refine PyProof.Rows.callWith_builtin1 (PyProof.Rows.args_cons ?_ rfl) rfl rfl
  refine Call_ (ld_blt I hg2 hm2 boot_set ?_)
  refine PyProof.Rows.callWith_type1 (PyProof.Rows.args_cons (thn (ha.run pins s σ H _ I h) fun v s1 ⟨x, H1, I1, r1, q1⟩ => PyProof.Rows.args_nil ?_) na) na rfl
  obtain ⟨l, xs, rfl, hq, h1, q1⟩ := q1
  cases r1
  obtain ⟨its, r, pl, hz⟩ := I1.list hq
  refine call_set_txt (I1.ok.hd hc) pl.isList (by simpa using strsAre_of r) (by unfold scanBound; omega) fun h' tk ts hk => ?_
  refine PyProof.Rows.args_nil ?_
  have ul := uniq_len xs
  obtain ⟨o, es, ep, t, ho, hex, hd, _, _, _, hf, hn⟩ := ts
  have I2 : Inv X pins σ H1 { s1 with heap := h', toks := tk } := I1.kept fun b o e => hk b o (Heap.lt_size e) e
  exact call_len_set ho hex hd hf (by rw [hn]; omega) ⟨.int (uniq xs).length, H1, I2.tok _, ⟨_, by rw [hn]⟩, q1⟩
/-- len(set(xs)) of texts -/
def txtsD : List Dt → Option (List Str)
  | [] => some []
  | .str x :: r => (txtsD r).map (x :: ·)
  | _ => none
theorem Dens.txts {Γ : Wd} {ρ : List Addr} {F : Hp} : ∀ {ds : List Dt} {vs : List V} {xs : List Str}, Dens Γ ρ F ds vs → txtsD ds = some xs → vs = xs.map V.str
  | [], vs, xs, h, e => by
    simp only [Dens] at h; simp only [txtsD, Option.some.injEq] at e
    subst h; subst e; rfl
  | d :: ds, vs, xs, h, e => by
    simp only [Dens] at h
    obtain ⟨v, r, e1, q, t⟩ := h
    cases d with
    | str x =>
      simp only [txtsD] at e
      obtain ⟨ys, h1, h2⟩ := Option.map_eq_some_iff.mp e
      subst e1; subst h2
      simp only [Den] at q
      rw [q.1, Dens.txts t h1]
      rfl
    | _ => simp [txtsD] at e
def dLenTx (d : Dt) (s : Sto) : Out Dt := match asL s d with
  | some l => match txtsD l with
    | some xs => if xs.length ≤ 4000 then .ok (.int (uniq xs).length) s else .bad
    | none => .bad
  | none => .bad
theorem es_lenTx (hc : X.calm = true) (hg : Gl X "len") (hm : X.mg "len" = none) (hg2 : Gl X "set") (hm2 : X.mg "set" = none) (ha : ES J X W a fa)
    (na : starEach [a] X.env = (false, eval a X.env) :: starEach [] X.env := by rfl) : ES J X W (.Call (.Name "len" p) [.Call (.Name "set" p2) [a] [] q] [] pos) (eUn dLenTx fa) :=
  PE.imp (pe_lenTx hc hg hm hg2 hm2 ha na) fun σ H Q ⟨env, ρ, F, s, g, l, k⟩ => ⟨env, ρ, F, s, g, l, Po.bind k fun x s1 ρ1 F1 H1 v e1 l1 g1 r1 k1 => by
    unfold dLenTx at k1
    split at k1
    · rename_i ds hl
      split at k1
      · rename_i xs hx
        split at k1
        · rename_i hz
          obtain ⟨a', vs, h1, h2, h3, h4⟩ := g1.sqL r1 hl
          refine ⟨a', xs, h1, ?_, hz, k1 ρ1 F1 H1 _ LE.refl g1 (by simp only [Den])⟩
          rw [← h3.txts hx]
          exact h2
        · exact False.elim k1
      · exact False.elim k1
    · exact False.elim k1⟩
/-- xs[::-1] -/
def dRev (nw : List Dt → Sto → Out Dt) (d : Dt) (s : Sto) : Out Dt := match asL s d with
  | some l => nw l.reverse s
  | none => .bad
theorem Dens.rev {Γ : Wd} {ρ : List Addr} {F : Hp} {ds : List Dt} {vs : List V} (h : Dens Γ ρ F ds vs) : Dens Γ ρ F ds.reverse vs.reverse := by
  obtain ⟨l', p, t⟩ := dens_perm (List.reverse_perm vs) h
  have go : ∀ {ds : List Dt} {vs : List V}, Dens Γ ρ F ds vs → ∀ {es : List Dt} {us : List V}, Dens Γ ρ F es us → Dens Γ ρ F (ds.reverse ++ es) (vs.reverse ++ us) := by
    intro ds
    induction ds with
    | nil => intro vs h es us k; simp only [Dens] at h; subst h; exact k
    | cons d ds ih =>
      intro vs h es us k
      simp only [Dens] at h
      obtain ⟨v, r, e1, q, t⟩ := h
      subst e1
      rw [List.reverse_cons, List.reverse_cons, List.append_assoc, List.append_assoc]
      refine ih t ?_
      show Dens Γ ρ F (d :: es) (v :: us)
      simp only [Dens]
      exact ⟨v, us, rfl, q, k⟩
  have := go h (es := []) (us := []) (by simp only [Dens])
  rw [List.append_nil, List.append_nil] at this
  exact this
theorem es_rev {nw : List Dt → Sto → Out Dt} (n : IsNw nw) {k : Nat} (he : ES J X W e fe) : ES J X W (.Subscript e (.Slice none none (some (.UnaryOp .USub (.Constant (.int 1) k p1) p2)) p3) pos) (eUn (dRev nw) fe) :=
  PE.imp (pe_revL he) fun σ H Q ⟨env, ρ, F, s, g, l, k⟩ => ⟨env, ρ, F, s, g, l, Po.bind k fun x s1 ρ1 F1 H1 v e1 l1 g1 r1 k1 => by
    unfold dRev at k1
    split at k1
    · rename_i ds hl
      obtain ⟨a', vs, h1, h2, h3, h4⟩ := g1.sqL r1 hl
      exact ⟨a', vs, h1, h2, fun q hq => new_lst n g1 h3.rev (by rw [List.length_reverse]; exact h4) hq k1⟩
    · exact False.elim k1⟩
end
end Pd
/-! The meanings, run by simp. -/
namespace Pd
open PySem L2
section
variable {α β : Type} {env : En} {s : Sto}
@[simp] theorem run_ok {a : α} {s' : Sto} {k : α → Sto → Out β} : (match (Out.ok a s' : Out α) with | .ok a s' => k a s' | .exc c s' => .exc c s' | .bad => .bad) = k a s' := rfl
@[simp] theorem ev_var {i : Nat} : eVar i env s = (match env[i]? with | some (some d) => .ok d s | _ => .bad) := rfl
@[simp] theorem ev_c {d : Dt} : eC d env s = .ok d s := rfl
@[simp] theorem ev_op {op : Dt → Dt → Sto → Out Dt} {f g : Ex} : eOp op f g env s = bnd (f env) (fun x => bnd (g env) fun y => op x y) s := rfl
@[simp] theorem ev_un {op : Dt → Sto → Out Dt} {f : Ex} : eUn op f env s = bnd (f env) op s := rfl
@[simp] theorem bnd_def {m : Sto → Out α} {k : α → Sto → Out β} : bnd m k s = (match m s with | .ok a s' => k a s' | .exc c s' => .exc c s' | .bad => .bad) := rfl
@[simp] theorem sBnd_def {m : Sto → Out α} {k : α → Sto → Res} : sBnd m env k s = (match m s with | .ok a s' => k a s' | .exc c s' => .exc c env s' | .bad => .bad) := rfl
@[simp] theorem iOp_int {g : Int → Int → Dt} {ok : Int → Int → Bool} {i j : Int} : iOp g ok (.int i) (.int j) s = if ok i j = true then .ok (g i j) s else .bad := rfl
@[simp] theorem ev_seq {f g : Sx} : sSeq f g env s = (match f env s with | .fl (.nx e) s' => g e s' | r => r) := rfl
@[simp] theorem ev_if {t : Tx} {f g : Sx} : sIf t f g env s = sBnd (t env) env (fun c s => if c = true then f env s else g env s) s := rfl
@[simp] theorem ev_ret {f : Ex} : sRet f env s = sBnd (f env) env (fun d s => .fl (.rt d) s) s := rfl
@[simp] theorem ev_next : sNext env s = .fl (.nx env) s := rfl
@[simp] theorem ev_expr {f : Ex} : sExpr f env s = sBnd (f env) env (fun _ s => .fl (.nx env) s) s := rfl
@[simp] theorem ev_asg {f : Ex} {tg : Tg} : sAsg f tg env s = sBnd (f env) env (fun d s => match tg d env s with | some e => .fl (.nx e) s | none => .bad) s := rfl
@[simp] theorem ev_gN {i : Nat} {d : Dt} : gN i d env s = some (env.set i (some d)) := rfl
@[simp] theorem ev_gT {is : List Nat} {l : List Dt} : gT is (.tup l) env s = setAll is l env := rfl
@[simp] theorem setAll_nil : setAll [] [] env = some env := rfl
@[simp] theorem setAll_cons {i : Nat} {is : List Nat} {d : Dt} {ds : List Dt} : setAll (i :: is) (d :: ds) env = setAll is ds (env.set i (some d)) := rfl
@[simp] theorem ev_tru {f : Ex} : tTru f env s = bnd (f env) (fun d s => ofB s (truD s d)) s := rfl
@[simp] theorem ev_bl {f : Ex} : tBl f env s = bnd (f env) (fun d s => match d with | .bl b => .ok b s | _ => .bad) s := rfl
@[simp] theorem ev_and {f g : Tx} : tAnd f g env s = bnd (f env) (fun c s => if c = true then g env s else .ok false s) s := rfl
@[simp] theorem ev_or {f g : Tx} : tOr f g env s = bnd (f env) (fun c s => if c = true then .ok true s else g env s) s := rfl
@[simp] theorem ev_not {f : Tx} : tNot f env s = bnd (f env) (fun c s => .ok (!c) s) s := rfl
@[simp] theorem ev_yes : Pd.tYes env s = .ok true s := rfl
@[simp] theorem ev_andE {f g : Ex} : eAnd f g env s = bnd (f env) (fun d s => match truD s d with | some true => g env s | some false => .ok d s | none => .bad) s := rfl
@[simp] theorem ev_orE {f g : Ex} : eOr f g env s = bnd (f env) (fun d s => match truD s d with | some true => .ok d s | some false => g env s | none => .bad) s := rfl
@[simp] theorem ev_notE {f : Ex} : eNot f env s = bnd (f env) (fun d s => ofO s ((truD s d).map fun b => .bl (!b))) s := rfl
@[simp] theorem ev_ifE {t : Tx} {f g : Ex} : eIf t f g env s = bnd (t env) (fun c s => if c = true then f env s else g env s) s := rfl
@[simp] theorem ev_chain {op op' : Dt → Dt → Sto → Out Dt} {f g h : Ex} : eChain op op' f g h env s = bnd (f env) (fun x => bnd (g env) fun y => bnd (op x y) fun z s => match z with | .bl true => bnd (h env) (fun w => op' y w) s | .bl false => .ok (.bl false) s | _ => .bad) s := rfl
@[simp] theorem ofB_some {b : Bool} : ofB s (some b) = .ok b s := rfl
@[simp] theorem ofO_some {d : Dt} : ofO s (some d) = .ok d s := rfl
@[simp] theorem ofO_none : ofO s none = .bad := rfl
@[simp] theorem truD_non : truD s .non = some false := rfl
@[simp] theorem truD_bl {b : Bool} : truD s (.bl b) = some b := rfl
@[simp] theorem truD_int {i : Int} : truD s (.int i) = some (i != 0) := rfl
@[simp] theorem truD_str {x : Str} : truD s (.str x) = some ((x.length : Int) != 0) := rfl
@[simp] theorem truD_tup {l : List Dt} : truD s (.tup l) = some (!l.isEmpty) := rfl
@[simp] theorem truD_lst {l : List Dt} : truD s (.lst l) = some (!l.isEmpty) := rfl
@[simp] theorem truD_lsk {l : List Dt} : truD s (.lsk l) = some (!l.isEmpty) := rfl
theorem truD_obj {i : Nat} {l : List Dt} (h : s[i]? = some (.lst l)) : truD s (.obj i) = some (!l.isEmpty) := by simp only [truD, h]
theorem truD_dic {i : Nat} {l : List (Key × Dt)} (h : s[i]? = some (.dic l)) : truD s (.obj i) = some (!l.isEmpty) := by simp only [truD, h]
@[simp] theorem evs_nil : evs [] env s = .ok [] s := rfl
@[simp] theorem evs_cons {f : Ex} {fs : List Ex} : evs (f :: fs) env s = bnd (f env) (fun d => bnd (evs fs env) fun ds s => .ok (d :: ds) s) s := rfl
@[simp] theorem ev_tup {fs : List Ex} : eTup fs env s = bnd (evs fs env) (fun ds s => .ok (.tup ds) s) s := rfl
@[simp] theorem ev_lst {nw : List Dt → Sto → Out Dt} {fs : List Ex} : eLst nw fs env s = bnd (evs fs env) nw s := rfl
@[simp] theorem ev_nwF {ds : List Dt} : nwF ds s = .ok (.lst ds) s := rfl
@[simp] theorem ev_nwM {ds : List Dt} : nwM ds s = .ok (.obj s.length) (s ++ [.lst ds]) := rfl
@[simp] theorem ev_call {m : Fn} {fs : List Ex} : eCall m fs env s = bnd (evs fs env) m s := rfl
@[simp] theorem ev_meth {c : Nat} {m : Fn} {fo : Ex} {fs : List Ex} : eMeth c m fo fs env s = bnd (fo env) (fun x s => match insD s c x with | some _ => bnd (evs fs env) (fun ds => m (x :: ds)) s | none => .bad) s := rfl
@[simp] theorem ev_make {c : Nat} {m : Fn} {fs : List Ex} : eMake c m fs env s = bnd (evs fs env) (fun ds s => bnd (m (.obj s.length :: ds)) (fun _ s' => .ok (.obj s.length) s') (s ++ [.ins c []])) s := rfl
@[simp] theorem ev_fld {c i : Nat} {fo : Ex} : eFld c i fo env s = bnd (fo env) (fun d s => ofO s ((insD s c d).bind fun p => p.2[i]?)) s := rfl
theorem insD_obj {c j : Nat} {ds : List Dt} (h : s[j]? = some (.ins c ds)) : insD s c (.obj j) = some (j, ds) := by simp only [insD, h, if_true]
@[simp] theorem ev_setF {c i : Nat} {fo fv : Ex} : sSetF c i fo fv env s = sBnd (fv env) env (fun y => sBnd (fo env) env fun d s => match setFD s c i d y with | some s' => .fl (.nx env) s' | none => .bad) s := rfl
theorem setFD_obj {c i j : Nat} {ds : List Dt} {y : Dt} (h : s[j]? = some (.ins c ds)) (hi : i ≤ ds.length) : setFD s c i (.obj j) y = some (s.set j (.ins c (putI i y ds))) := by simp only [setFD, insD_obj h, Option.bind_some, if_pos hi]
@[simp] theorem ev_bm1 {ty : Sto → Dt → Bool} {op : Dt → Dt → Sto → Out Dt} {fo fe : Ex} : eBm1 ty op fo fe env s = bnd (fo env) (fun x s => if ty s x = true then bnd (fe env) (fun y => op x y) s else .bad) s := rfl
theorem isLst_obj {i : Nat} {l : List Dt} (h : s[i]? = some (.lst l)) : isLst s (.obj i) = true := by simp [isLst, asL, h]
theorem lstAt_obj {i : Nat} {l : List Dt} (h : s[i]? = some (.lst l)) : lstAt s (.obj i) = some (i, l) := by simp only [lstAt, h]
theorem dApp_obj {i : Nat} {l : List Dt} {y : Dt} (h : s[i]? = some (.lst l)) (hz : l.length < sizeLine) : dApp (.obj i) y s = .ok .non (s.set i (.lst (l ++ [y]))) := by simp only [dApp, lstAt_obj h, if_pos hz]
@[simp] theorem asQ_tup {l : List Dt} : asQ s (.tup l) = some l := rfl
@[simp] theorem asQ_lst {l : List Dt} : asQ s (.lst l) = some l := rfl
@[simp] theorem asQ_lsk {l : List Dt} : asQ s (.lsk l) = some l := rfl
@[simp] theorem asL_lst {l : List Dt} : asL s (.lst l) = some l := rfl
@[simp] theorem asL_lsk {l : List Dt} : asL s (.lsk l) = some l := rfl
theorem asQ_obj {i : Nat} {l : List Dt} (h : s[i]? = some (.lst l)) : asQ s (.obj i) = some l := by simp only [asQ, asL, h]
theorem asL_obj {i : Nat} {l : List Dt} (h : s[i]? = some (.lst l)) : asL s (.obj i) = some l := by simp only [asL, h]
@[simp] theorem dLen_tup {l : List Dt} : dLen (.tup l) s = .ok (.int l.length) s := rfl
@[simp] theorem dLen_lst {l : List Dt} : dLen (.lst l) s = .ok (.int l.length) s := rfl
@[simp] theorem dLen_lsk {l : List Dt} : dLen (.lsk l) s = .ok (.int l.length) s := rfl
@[simp] theorem dLen_str {l : Str} : dLen (.str l) s = .ok (.int l.length) s := rfl
theorem dLen_obj {i : Nat} {l : List Dt} (h : s[i]? = some (.lst l)) : dLen (.obj i) s = .ok (.int l.length) s := by simp only [dLen, lenD, h]; rfl
theorem dLen_dic {i : Nat} {l : List (Key × Dt)} (h : s[i]? = some (.dic l)) : dLen (.obj i) s = .ok (.int l.length) s := by simp only [dLen, lenD, h]; rfl
@[simp] theorem dIx_tup {l : List Dt} {i : Int} : dIx (.tup l) (.int i) s = ofO s (atI l i) := rfl
@[simp] theorem dIx_lst {l : List Dt} {i : Int} : dIx (.lst l) (.int i) s = ofO s (atI l i) := rfl
@[simp] theorem dIx_lsk {l : List Dt} {i : Int} : dIx (.lsk l) (.int i) s = ofO s (atI l i) := rfl
@[simp] theorem dIx_str {z : Str} {i : Int} : dIx (.str z) (.int i) s = ofO s ((atI z.cps.toList i).map fun c => .str ⟨#[c]⟩) := rfl
theorem dIx_obj {j : Nat} {l : List Dt} {i : Int} (h : s[j]? = some (.lst l)) : dIx (.obj j) (.int i) s = ofO s (atI l i) := by simp only [dIx, asQ_obj h, Option.bind_some]
@[simp] theorem dAdd_int {nw : List Dt → Sto → Out Dt} {i j : Int} : dAdd nw (.int i) (.int j) s = .ok (.int (i + j)) s := rfl
@[simp] theorem dNeg_int {i : Int} : dNeg (.int i) s = .ok (.int (-i)) s := rfl
@[simp] theorem isN_def {d : Dt} : dIsN d s = .ok (.bl (isNon d)) s := rfl
@[simp] theorem notN_def {d : Dt} : dNotN d s = .ok (.bl (!isNon d)) s := rfl
@[simp] theorem isNon_non : isNon .non = true := rfl
@[simp] theorem isNon_int {i : Int} : isNon (.int i) = false := rfl
@[simp] theorem isNon_bl {i : Bool} : isNon (.bl i) = false := rfl
@[simp] theorem isNon_str {i : Str} : isNon (.str i) = false := rfl
@[simp] theorem isNon_tup {i : List Dt} : isNon (.tup i) = false := rfl
@[simp] theorem isNon_lst {i : List Dt} : isNon (.lst i) = false := rfl
@[simp] theorem isNon_obj {i : Nat} : isNon (.obj i) = false := rfl
@[simp] theorem isNon_exc {i : Nat} : isNon (.exc i) = false := rfl
/-! equality -/
@[simp] theorem dEq_int {i j : Int} : dEq (.int i) (.int j) s = .ok (.bl (i == j)) s := rfl
@[simp] theorem dNe_int {i j : Int} : dNe (.int i) (.int j) s = .ok (.bl (!(i == j))) s := rfl
@[simp] theorem dEq_str {i j : Str} : dEq (.str i) (.str j) s = .ok (.bl (i == j)) s := rfl
@[simp] theorem dNe_str {i j : Str} : dNe (.str i) (.str j) s = .ok (.bl (!(i == j))) s := rfl
@[simp] theorem dEq_bl {i j : Bool} : dEq (.bl i) (.bl j) s = .ok (.bl (i == j)) s := rfl
end
theorem rep_zero : List.replicate 0 (none : Option Dt) = [] := rfl
theorem rep_succ {n : Nat} : List.replicate (n + 1) (none : Option Dt) = none :: List.replicate n none := rfl
/-- places of a written list -/
theorem atI_ofNat {α : Type} (l : List α) (n : Nat) : atI l (n : Int) = l[n]? := by
  unfold atI ixN
  rw [if_pos (Int.natCast_nonneg n)]
  by_cases h : n < l.length
  · rw [if_pos (by exact_mod_cast h)]; simp
  · rw [if_neg (by exact_mod_cast h)]
    simp
    omega
@[simp] theorem atI_zero {α : Type} (l : List α) : atI l 0 = l[0]? := atI_ofNat l 0
@[simp] theorem atI_one {α : Type} (l : List α) : atI l 1 = l[1]? := atI_ofNat l 1
@[simp] theorem atI_2 {α : Type} (l : List α) : atI l 2 = l[2]? := atI_ofNat l 2
@[simp] theorem atI_3 {α : Type} (l : List α) : atI l 3 = l[3]? := atI_ofNat l 3
@[simp] theorem atI_4 {α : Type} (l : List α) : atI l 4 = l[4]? := atI_ofNat l 4
@[simp] theorem atI_5 {α : Type} (l : List α) : atI l 5 = l[5]? := atI_ofNat l 5
@[simp] theorem atI_6 {α : Type} (l : List α) : atI l 6 = l[6]? := atI_ofNat l 6
@[simp] theorem atI_7 {α : Type} (l : List α) : atI l 7 = l[7]? := atI_ofNat l 7
@[simp] theorem atI_8 {α : Type} (l : List α) : atI l 8 = l[8]? := atI_ofNat l 8
@[simp] theorem atI_9 {α : Type} (l : List α) : atI l 9 = l[9]? := atI_ofNat l 9
@[simp] theorem atI_10 {α : Type} (l : List α) : atI l 10 = l[10]? := atI_ofNat l 10
@[simp] theorem atI_11 {α : Type} (l : List α) : atI l 11 = l[11]? := atI_ofNat l 11
@[simp] theorem atI_12 {α : Type} (l : List α) : atI l 12 = l[12]? := atI_ofNat l 12
theorem atI_m1 {α : Type} (l : List α) : atI l (-1) = l.getLast? := by
  rcases List.eq_nil_or_concat l with e | ⟨r, x, e⟩
  · subst e; rfl
  · subst e
    rw [List.concat_eq_append, atI_last, List.getLast?_append]
    rfl
theorem dAdd_tup {nw : List Dt → Sto → Out Dt} {l m : List Dt} {s : Sto} (h : l.length + m.length ≤ 1000) : dAdd nw (.tup l) (.tup m) s = .ok (.tup (l ++ m)) s := by
  simp only [dAdd]
  rw [if_pos (by rw [sizeLine_eq]; omega)]
theorem dIsi_tup {l : List Dt} {s : Sto} : dIsi "tuple" (.tup l) s = .ok (.bl true) s := rfl
end Pd
namespace Pd
open PySem L2
/-- a comprehension that changes nothing -/
theorem lc_pure {tg : Tg} {ft : Tx} {fe : Ex} {ok : Sto → Prop} {env : En} {s : Sto} {p : Dt → Bool} {g : Dt → Dt} (hok : ok s) : ∀ {l : List Dt}, (∀ d ∈ l, ∃ env1, tg d env s = some env1 ∧ ft env1 s = .ok (p d) s ∧ (p d = true → fe env1 s = .ok (g d) s)) → lcGo tg ft fe ok l env s = .ok ((l.filter p).map g) s
  | [], _ => by simp only [lcGo, if_pos hok, List.filter_nil, List.map_nil]
  | d :: r, h => by
    obtain ⟨env1, h1, h2, h3⟩ := h d List.mem_cons_self
    have ih := lc_pure (l := r) hok fun d hd => h d (List.mem_cons_of_mem _ hd)
    simp only [lcGo, if_pos hok, h1, bndN, h2]
    cases e : p d with
    | true =>
      rw [if_pos rfl, List.filter_cons_of_pos e, List.map_cons]
      simp only [h3 e, ih]
    | false =>
      rw [if_neg Bool.false_ne_true, List.filter_cons_of_neg (by simp [e])]
      exact ih
/-- a loop by what holds between its turns -/
theorem for_inv {tg : Tg} {body : Sx} {ok : Sto → Prop} (I : List Dt → En → Sto → Prop) (all : List Dt) : ∀ (l pre : List Dt), all = pre ++ l → ∀ (env : En) (s : Sto), I pre env s →
    (∀ pre d post env s, all = pre ++ d :: post → I pre env s → ok s ∧ ∃ env1, tg d env s = some env1 ∧ ∃ e s', (body env1 s = .fl (.nx e) s' ∨ body env1 s = .fl (.ct e) s') ∧ I (pre ++ [d]) e s') → (∀ env s, I all env s → ok s) →
    ∃ e s', forGo tg body ok l env s = .fl (.nx e) s' ∧ I all e s'
  | [], pre, ha, env, s, hi, hs, hd => by
    rw [List.append_nil] at ha
    subst ha
    exact ⟨env, s, by simp only [forGo, if_pos (hd env s hi)], hi⟩
  | d :: r, pre, ha, env, s, hi, hs, hd => by
    obtain ⟨hok, env1, h1, e, s', h2, h3⟩ := hs pre d r env s ha hi
    obtain ⟨e2, s2, h4, h5⟩ := for_inv I all r (pre ++ [d]) (by rw [ha, List.append_assoc]; rfl) e s' h3 hs hd
    refine ⟨e2, s2, ?_, h5⟩
    rcases h2 with h2 | h2
    · simp only [forGo, if_pos hok, h1, h2]; exact h4
    · simp only [forGo, if_pos hok, h1, h2]; exact h4
/-- .. over the numbers below n -/
theorem for_range_inv {tg : Tg} {body : Sx} (I : Nat → En → Sto → Prop) (n : Nat) {env : En} {s : Sto} (h0 : I 0 env s)
    (hs : ∀ k env s, k < n → I k env s → ∃ env1, tg (.int k) env s = some env1 ∧ ∃ e s', (body env1 s = .fl (.nx e) s' ∨ body env1 s = .fl (.ct e) s') ∧ I (k + 1) e s') :
    ∃ e s', forGo tg body (fun _ => True) ((List.range n).map fun (k : Nat) => .int k) env s = .fl (.nx e) s' ∧ I n e s' := by
  obtain ⟨e, s', h1, h2⟩ := for_inv (tg := tg) (body := body) (ok := fun _ => True) (fun pre env s => ∃ k, k ≤ n ∧ pre = (List.range k).map (fun (k : Nat) => Dt.int k) ∧ I k env s) ((List.range n).map fun (k : Nat) => .int k) _ [] rfl env s ⟨0, Nat.zero_le _, rfl, h0⟩
    (fun pre d post env s ha ⟨k, hk, ep, hi⟩ => by
      have hlen : pre.length = k := by rw [ep, List.length_map, List.length_range]
      have hkn : k < n := by
        have := congrArg List.length ha
        simp at this
        omega
      have ed : d = .int k := by
        have z : ((List.range n).map fun (k : Nat) => Dt.int k)[k]? = some d := by rw [ha, ← hlen]; simp
        rw [List.getElem?_map, List.getElem?_range hkn] at z
        simpa using z.symm
      subst ed
      obtain ⟨env1, h1, e, s', h2, h3⟩ := hs k env s hkn hi
      exact ⟨trivial, env1, h1, e, s', h2, k + 1, hkn, by rw [ep, List.range_succ, List.map_append]; rfl, h3⟩) (fun _ _ _ => trivial)
  obtain ⟨k, hk, ep, hi⟩ := h2
  have : k = n := by
    have := congrArg List.length ep
    simp at this
    omega
  subst this
  exact ⟨e, s', h1, hi⟩
@[simp] theorem ev_for {fi : Is} {tg : Tg} {body : Sx} {env : En} {s : Sto} : sFor fi tg body env s = sBnd (fi env) env (fun p => forGo tg body p.2 p.1 env) s := rfl
@[simp] theorem ev_lc {nw : List Dt → Sto → Out Dt} {vs : List Nat} {fi : Is} {tg : Tg} {ft : Tx} {fe : Ex} {env : En} {s : Sto} : eLc nw vs fi tg ft fe env s = bnd (fi env) (fun p => bndN (lcGo tg ft fe p.2 p.1 (wipeD env vs)) nw) s := rfl
@[simp] theorem wipeD_nil {env : En} : wipeD env [] = env := rfl
@[simp] theorem wipeD_cons {env : En} {v : Nat} {vs : List Nat} : wipeD env (v :: vs) = (wipeD env vs).set v none := rfl
theorem bndN_ok {α β : Type} {m : Sto → Out α} {k : α → Sto → Out β} {s s' : Sto} {a : α} (h : m s = .ok a s') : bndN m k s = k a s' := by unfold bndN; rw [h]
@[simp] theorem ev_iSeq {f : Ex} {env : En} {s : Sto} : iSeq f env s = bnd (β := List Dt × (Sto → Prop)) (f env) (fun d s => match d with
  | .str x => .ok (signs x, fun _ => True) s
  | d => match asQ s d with
    | some l => .ok (l, fun s' => asQ s' d = some l) s
    | none => .bad) s := rfl
@[simp] theorem ev_iRange {f : Ex} {env : En} {s : Sto} : iRange f env s = bnd (β := List Dt × (Sto → Prop)) (f env) (fun d s => match d with
  | .int n => if n ≤ 16777216 ∧ -(2 ^ 62) ≤ n then .ok ((List.range n.toNat).map fun (k : Nat) => .int k, fun _ => True) s else .bad
  | _ => .bad) s := rfl
theorem ev_sl {nw : List Dt → Sto → Out Dt} {fa : Ex} {lo hi : Option Ex} {env : En} {s : Sto} : eSl nw fa lo hi env s = bnd (fa env) (fun x => bnd (evp lo env) fun l => bnd (evp hi env) fun u => dSl nw x l u) s := rfl
theorem evp_none {env : En} {s : Sto} : evp none env s = .ok none s := rfl
theorem evp_some {f : Ex} {env : En} {s : Sto} : evp (some f) env s = bnd (f env) (fun d s => match d with | .int i => .ok (some i) s | _ => .bad) s := rfl
theorem dSl_tup {nw : List Dt → Sto → Out Dt} {l : List Dt} {lo hi : Option Int} {s : Sto} : dSl nw (.tup l) lo hi s = .ok (.tup (cutD l lo hi)) s := rfl
theorem dSl_lst {nw : List Dt → Sto → Out Dt} {l : List Dt} {lo hi : Option Int} {s : Sto} : dSl nw (.lst l) lo hi s = nw (cutD l lo hi) s := rfl
theorem dSl_obj {nw : List Dt → Sto → Out Dt} {i : Nat} {l : List Dt} {lo hi : Option Int} {s : Sto} (h : s[i]? = some (.lst l)) : dSl nw (.obj i) lo hi s = nw (cutD l lo hi) s := by simp only [dSl, asL_obj h]
/-! ### equal data -/
mutual
theorem eqv_refl : ∀ p : PyData, p.canLay0 = true → PyData.eqv p p = true
  | .none, _ => rfl
  | .bool b, _ => by simp [PyData.eqv]
  | .int i, _ => by simp [PyData.eqv]
  | .str x, _ => by simp [PyData.eqv]
  | .list xs, h => by simp only [PyData.eqv]; exact eqvAll_refl xs (by simpa only [PyData.canLay0] using h)
  | .tuple xs, h => by simp only [PyData.eqv]; exact eqvAll_refl xs (by simpa only [PyData.canLay0] using h)
  | .dict xs, h => by simp [PyData.canLay0] at h
theorem eqvAll_refl : ∀ p : List PyData, PyData.canLayAll0 p = true → PyData.eqvAll p p = true
  | [], _ => rfl
  | x :: xs, h => by
    simp only [PyData.canLayAll0, Bool.and_eq_true] at h
    simp only [PyData.eqvAll, eqv_refl x h.1, eqvAll_refl xs h.2, Bool.and_self]
end
mutual
def noDict : PyData → Bool
  | .list xs => noDicts xs
  | .tuple xs => noDicts xs
  | .dict _ => false
  | _ => true
def noDicts : List PyData → Bool
  | [] => true
  | x :: xs => noDict x && noDicts xs
end
mutual
theorem eqv_self : ∀ p : PyData, noDict p = true → PyData.eqv p p = true
  | .none, _ => rfl
  | .bool b, _ => by simp [PyData.eqv]
  | .int i, _ => by simp [PyData.eqv]
  | .str x, _ => by simp [PyData.eqv]
  | .list xs, h => by simp only [PyData.eqv]; exact eqvAll_self xs (by simpa only [noDict] using h)
  | .tuple xs, h => by simp only [PyData.eqv]; exact eqvAll_self xs (by simpa only [noDict] using h)
  | .dict xs, h => by simp [noDict] at h
theorem eqvAll_self : ∀ p : List PyData, noDicts p = true → PyData.eqvAll p p = true
  | [], _ => rfl
  | x :: xs, h => by
    simp only [noDicts, Bool.and_eq_true] at h
    simp only [PyData.eqvAll, eqv_self x h.1, eqvAll_self xs h.2, Bool.and_self]
end
mutual
theorem toPy_noDict : ∀ (d : Dt) (p : PyData), toPy d = some p → noDict p = true
  | .non, p, h => by simp only [toPy, Option.some.injEq] at h; subst h; rfl
  | .bl _, p, h => by simp only [toPy, Option.some.injEq] at h; subst h; rfl
  | .int _, p, h => by simp only [toPy, Option.some.injEq] at h; subst h; rfl
  | .str _, p, h => by simp only [toPy, Option.some.injEq] at h; subst h; rfl
  | .tup l, p, h => by
    simp only [toPy, Option.map_eq_some_iff] at h
    obtain ⟨q, e1, e2⟩ := h
    subst e2
    simp only [noDict]
    exact toPys_noDict l q e1
  | .lst l, p, h => by
    simp only [toPy, Option.map_eq_some_iff] at h
    obtain ⟨q, e1, e2⟩ := h
    subst e2
    simp only [noDict]
    exact toPys_noDict l q e1
  | .lsk l, p, h => by
    simp only [toPy, Option.map_eq_some_iff] at h
    obtain ⟨q, e1, e2⟩ := h
    subst e2
    simp only [noDict]
    exact toPys_noDict l q e1
  | .obj _, p, h => by simp [toPy] at h
  | .exc _, p, h => by simp [toPy] at h
theorem toPys_noDict : ∀ (d : List Dt) (p : List PyData), toPys d = some p → noDicts p = true
  | [], p, h => by simp only [toPys, Option.some.injEq] at h; subst h; rfl
  | d :: ds, p, h => by
    simp only [toPys] at h
    split at h
    · rename_i a b ha hb
      cases h
      simp only [noDicts, toPy_noDict d a ha, toPys_noDict ds b hb, Bool.and_self]
    · cases h
end
mutual
def dpt : Dt → Option Nat
  | .non => some 0
  | .bl _ => some 0
  | .int _ => some 0
  | .str _ => some 0
  | .tup l => (dpts l).map (· + 1)
  | .lst l => (dpts l).map (· + 1)
  | .lsk l => (dpts l).map (· + 1)
  | .obj _ => none
  | .exc _ => none
def dpts : List Dt → Option Nat
  | [] => some 0
  | d :: ds => match dpt d, dpts ds with
    | some a, some b => some (max a b)
    | _, _ => none
end
mutual
theorem dpt_py : ∀ (d : Dt) (n : Nat), dpt d = some n → ∃ p, toPy d = some p ∧ p.depth = n
  | .non, n, h => by simp only [dpt, Option.some.injEq] at h; exact ⟨_, rfl, by simp only [PyData.depth]; exact h⟩
  | .bl _, n, h => by simp only [dpt, Option.some.injEq] at h; exact ⟨_, rfl, by simp only [PyData.depth]; exact h⟩
  | .int _, n, h => by simp only [dpt, Option.some.injEq] at h; exact ⟨_, rfl, by simp only [PyData.depth]; exact h⟩
  | .str _, n, h => by simp only [dpt, Option.some.injEq] at h; exact ⟨_, rfl, by simp only [PyData.depth]; exact h⟩
  | .tup l, n, h => by
    simp only [dpt, Option.map_eq_some_iff] at h
    obtain ⟨m, e1, e2⟩ := h
    obtain ⟨q, e3, e4⟩ := dpts_py l m e1
    exact ⟨.tuple q, by simp only [toPy, e3, Option.map_some], by simp only [PyData.depth]; omega⟩
  | .lst l, n, h => by
    simp only [dpt, Option.map_eq_some_iff] at h
    obtain ⟨m, e1, e2⟩ := h
    obtain ⟨q, e3, e4⟩ := dpts_py l m e1
    exact ⟨.list q, by simp only [toPy, e3, Option.map_some], by simp only [PyData.depth]; omega⟩
  | .lsk l, n, h => by
    simp only [dpt, Option.map_eq_some_iff] at h
    obtain ⟨m, e1, e2⟩ := h
    obtain ⟨q, e3, e4⟩ := dpts_py l m e1
    exact ⟨.list q, by simp only [toPy, e3, Option.map_some], by simp only [PyData.depth]; omega⟩
  | .obj _, n, h => by simp [dpt] at h
  | .exc _, n, h => by simp [dpt] at h
theorem dpts_py : ∀ (d : List Dt) (n : Nat), dpts d = some n → ∃ p, toPys d = some p ∧ PyData.depthAll p = n
  | [], n, h => by simp only [dpts, Option.some.injEq] at h; exact ⟨[], rfl, by simp only [PyData.depthAll]; exact h⟩
  | d :: ds, n, h => by
    simp only [dpts] at h
    split at h
    · rename_i a b ha hb
      cases h
      obtain ⟨p, e1, e2⟩ := dpt_py d a ha
      obtain ⟨q, e3, e4⟩ := dpts_py ds b hb
      exact ⟨p :: q, by simp only [toPys, e1, e3], by simp only [PyData.depthAll, e2, e4]⟩
    · cases h
end
theorem dEq_self {d : Dt} {n : Nat} {s : Sto} (h : dpt d = some n) (hn : n ≤ 64) : dEq d d s = .ok (.bl true) s ∧ dNe d d s = .ok (.bl false) s := by
  obtain ⟨p, e1, e2⟩ := dpt_py d n h
  have e3 : toPyS s d = some p := by
    cases d with
    | obj i => simp [dpt] at h
    | _ => exact e1
  have e4 : dEqB s d d = some true := by
    simp only [dEqB, e3, e2, if_pos (And.intro hn hn), eqv_self p (toPy_noDict d p e1)]
  constructor
  · simp only [dEq, e4, Option.map_some, ofO_some]
  · simp only [dNe, e4, Option.map_some, ofO_some, Bool.not_true]
end Pd
namespace Pd
open PySem L2
/-! ### comprehensions over written-out lists -/
theorem lc_map {α : Type} {tg : Tg} {ft : Tx} {fe : Ex} {ok : Sto → Prop} {env : En} {s : Sto} {f g : α → Dt} (hok : ok s) : ∀ {l : List α}, (∀ a ∈ l, ∃ env1, tg (f a) env s = some env1 ∧ ft env1 s = .ok true s ∧ fe env1 s = .ok (g a) s) → lcGo tg ft fe ok (l.map f) env s = .ok (l.map g) s
  | [], _ => by simp only [List.map_nil, lcGo, if_pos hok]
  | d :: r, h => by
    obtain ⟨env1, h1, h2, h3⟩ := h d List.mem_cons_self
    have ih := lc_map (l := r) hok fun d hd => h d (List.mem_cons_of_mem _ hd)
    simp only [List.map_cons, lcGo, if_pos hok, h1, bndN, h2, h3, ih, if_true]
theorem lc_filter {α : Type} {tg : Tg} {ft : Tx} {fe : Ex} {ok : Sto → Prop} {env : En} {s : Sto} {f g : α → Dt} {p : α → Bool} (hok : ok s) : ∀ {l : List α}, (∀ a ∈ l, ∃ env1, tg (f a) env s = some env1 ∧ ft env1 s = .ok (p a) s ∧ (p a = true → fe env1 s = .ok (g a) s)) → lcGo tg ft fe ok (l.map f) env s = .ok ((l.filter p).map g) s
  | [], _ => by simp only [List.map_nil, lcGo, if_pos hok, List.filter_nil]
  | d :: r, h => by
    obtain ⟨env1, h1, h2, h3⟩ := h d List.mem_cons_self
    have ih := lc_filter (l := r) hok fun d hd => h d (List.mem_cons_of_mem _ hd)
    cases e : p d with
    | true => simp only [List.map_cons, lcGo, if_pos hok, h1, bndN, h2, h3 e, ih, e, if_true, List.filter_cons]
    | false => simp only [List.map_cons, lcGo, if_pos hok, h1, bndN, h2, ih, e, Bool.false_eq_true, if_false, List.filter_cons]
/-- .. where the store changes: what holds between the turns -/
theorem lc_inv {tg : Tg} {fe : Ex} {ok : Sto → Prop} {env : En} (I : Nat → Sto → Prop) (P : Dt → Prop) (N : Nat) (hok : ∀ n s, I n s → ok s) : ∀ {l : List Dt} {n : Nat} {s : Sto}, n + l.length ≤ N → I n s →
    (∀ n s, ∀ d ∈ l, n < N → I n s → ∃ env1, tg d env s = some env1 ∧ ∃ y s', fe env1 s = .ok y s' ∧ P y ∧ I (n + 1) s') → ∃ ys s', lcGo tg Pd.tYes fe ok l env s = .ok ys s' ∧ I (n + l.length) s' ∧ ys.length = l.length ∧ ∀ y ∈ ys, P y
  | [], n, s, _, hi, _ => ⟨[], s, by simp only [lcGo, if_pos (hok n s hi)], hi, rfl, fun _ h => nomatch h⟩
  | d :: r, n, s, hN, hi, h => by
    rw [List.length_cons] at hN
    obtain ⟨env1, h1, y, s1, h2, hp, h3⟩ := h n s d List.mem_cons_self (by omega) hi
    obtain ⟨ys, s2, h4, h5, h6, h7⟩ := lc_inv (tg := tg) (fe := fe) (ok := ok) (env := env) I P N hok (l := r) (n := n + 1) (by omega) h3 fun n s d hd => h n s d (List.mem_cons_of_mem _ hd)
    refine ⟨y :: ys, s2, ?_, ?_, by rw [List.length_cons, List.length_cons, h6], fun z hz => ?_⟩
    · simp only [lcGo, if_pos (hok n s hi), h1, bndN, ev_yes, if_true, h2, h4]
    · rw [List.length_cons]; rw [show n + (r.length + 1) = n + 1 + r.length by omega]; exact h5
    · rcases List.mem_cons.mp hz with e | hz
      · rw [e]; exact hp
      · exact h7 z hz
/-! ### texts -/
theorem mkS_beq (a b : List Nat) : (mkS a == mkS b) = (a == b) := by
  rw [Bool.eq_iff_iff]
  simp only [beq_iff_eq]
  exact ⟨fun h => by have := congrArg (fun x : Str => x.cps.toList) h; simpa using this, fun h => by rw [h]⟩
theorem mkS_eq (x : Str) : x = mkS x.cps.toList := (TL.mk_tl x).symm
theorem mkS_len (l : List Nat) : (mkS l).length = l.length := len_codes _
theorem dLen_mk {l : List Nat} {s : Sto} : dLen (.str (mkS l)) s = .ok (.int l.length) s := by rw [dLen_str, mkS_len]
theorem dEq_mk {a b : List Nat} {s : Sto} : dEq (.str (mkS a)) (.str (mkS b)) s = .ok (.bl (a == b)) s := by rw [dEq_str, mkS_beq]
theorem dNe_mk {a b : List Nat} {s : Sto} : dNe (.str (mkS a)) (.str (mkS b)) s = .ok (.bl (!(a == b))) s := by rw [dNe_str, mkS_beq]
theorem isStr_str {x : Str} {s : Sto} : isStr s (.str x) = true := rfl
theorem isLst_lst {l : List Dt} {s : Sto} : isLst s (.lst l) = true := rfl
theorem dSplit_mk {nw : List Dt → Sto → Out Dt} {a : List Nat} {s : Sto} : dSplit nw (.str (mkS a)) (.str (mkS [47])) s = nw ((splC 47 a).map fun l => .str (mkS l)) s := rfl
theorem signs_mk (l : List Nat) : signs (mkS l) = l.map fun c => .str (mkS [c]) := rfl
theorem dOrd_mk {c : Nat} {s : Sto} : dOrd (.str (mkS [c])) s = .ok (.int c) s := rfl
theorem dIn_sign {c : Nat} {z : List Nat} {s : Sto} : dIn (.str (mkS [c])) (.str (mkS z)) s = .ok (.bl (decide (c ∈ z))) s := rfl
theorem dNotIn_sign {c : Nat} {z : List Nat} {s : Sto} : dNotIn (.str (mkS [c])) (.str (mkS z)) s = .ok (.bl (!decide (c ∈ z))) s := rfl
theorem dIn_two {p a b : List Nat} {s : Sto} : dIn (.str (mkS p)) (.tup [.str (mkS a), .str (mkS b)]) s = .ok (.bl (a == p || b == p)) s := by
  have e : inB s (.str (mkS p)) (.tup [.str (mkS a), .str (mkS b)]) = some ((mkS a == mkS p) || ((mkS b == mkS p) || false)) := rfl
  simp only [dIn, e, Option.map_some, ofO_some, mkS_beq, Bool.or_false]
theorem dNotIn_two {p a b : List Nat} {s : Sto} : dNotIn (.str (mkS p)) (.tup [.str (mkS a), .str (mkS b)]) s = .ok (.bl (!(a == p || b == p))) s := by
  have e : inB s (.str (mkS p)) (.tup [.str (mkS a), .str (mkS b)]) = some ((mkS a == mkS p) || ((mkS b == mkS p) || false)) := rfl
  simp only [dNotIn, e, Option.map_some, ofO_some, mkS_beq, Bool.or_false]
theorem dNotIn_three {n a b c : Int} {s : Sto} : dNotIn (.int n) (.tup [.int a, .int b, .int c]) s = .ok (.bl (!(a == n || (b == n || c == n)))) s := by
  have e : inB s (.int n) (.tup [.int a, .int b, .int c]) = some ((a == n) || ((b == n) || ((c == n) || false))) := rfl
  simp only [dNotIn, e, Option.map_some, ofO_some, Bool.or_false]
theorem asB_map {α : Type} (q : α → Bool) : ∀ l : List α, asB (l.map fun a => .bl (q a)) = some (l.map q)
  | [] => rfl
  | a :: r => by simp only [List.map_cons, asB, asB_map q r, Option.map_some]
theorem dAll_map {α : Type} {q : α → Bool} {l : List α} {s : Sto} : dAll (.lst (l.map fun a => .bl (q a))) s = .ok (.bl (l.all q)) s := by
  simp only [dAll, asL_lst, Option.bind_some, asB_map, Option.map_some, ofO_some, List.all_map]
  rfl
theorem dAny_map {α : Type} {q : α → Bool} {l : List α} {s : Sto} : dAny (.lst (l.map fun a => .bl (q a))) s = .ok (.bl (l.any q)) s := by
  simp only [dAny, asL_lst, Option.bind_some, asB_map, Option.map_some, ofO_some, List.any_map]
  rfl
/-! slices -/
theorem cut_tail {α : Type} (x : α) (xs : List α) : cutD (x :: xs) (some 1) none = xs := by
  have h1 : HT.sIx (x :: xs).length 0 (some 1) = 1 := by
    have := HT.sIx_nat (x :: xs).length 0 1
    rw [show ((1 : Nat) : Int) = 1 from rfl] at this
    rw [this, List.length_cons]; omega
  unfold cutD
  rw [h1, HT.sIx_none, List.drop_one, List.tail_cons, List.length_cons, Nat.add_sub_cancel, List.take_length]
theorem cut_take {α : Type} (xs : List α) (k : Nat) : cutD xs none (some (k : Int)) = xs.take k := by
  unfold cutD
  rw [HT.sIx_none, HT.sIx_nat, List.drop_zero, Nat.sub_zero]
  by_cases h : k ≤ xs.length
  · rw [Nat.min_eq_left h]
  · rw [Nat.min_eq_right (by omega), List.take_length, List.take_of_length_le (by omega)]
theorem cut_one {α : Type} (xs : List α) : cutD xs none (some 1) = xs.take 1 := cut_take xs 1
theorem cut_init {α : Type} (xs : List α) : cutD xs none (some (-1)) = xs.dropLast := by
  unfold cutD
  have h1 : HT.sIx xs.length xs.length (some (-1)) = xs.length - 1 := by
    show (if (-1 : Int) < 0 then (-1 + (xs.length : Int)).toNat else min (-1 : Int).toNat xs.length) = _
    rw [if_pos (by decide)]
    omega
  rw [HT.sIx_none, h1, List.drop_zero, Nat.sub_zero, List.dropLast_eq_take]
theorem cutS_one (l : List Nat) : cutS (mkS l) none (some 1) = mkS (l.take 1) := by
  have e : cutS (mkS l) none (some 1) = mkS (cutD l none (some 1)) := by
    unfold cutS cutD
    rw [mkS_len]
  rw [e, cut_one]
theorem dSl_str {nw : List Dt → Sto → Out Dt} {z : Str} {lo hi : Option Int} {s : Sto} : dSl nw (.str z) lo hi s = .ok (.str (cutS z lo hi)) s := rfl
/-- a list of levels -/
abbrev lvs (ps : List (List Nat)) : List Dt := ps.map fun l => .str (mkS l)
theorem dEq_lst1 {p q : List Nat} {s : Sto} : dEq (.lst [.str (mkS p)]) (.lst [.str (mkS q)]) s = .ok (.bl (p == q)) s := by
  have e : dEq (.lst [.str (mkS p)]) (.lst [.str (mkS q)]) s = .ok (.bl ((mkS p == mkS q) && true)) s := by
    have : dEqB s (.lst [.str (mkS p)]) (.lst [.str (mkS q)]) = some ((mkS p == mkS q) && true) := by
      simp [dEqB, toPyS, toPy, toPys, PyData.depth, PyData.depthAll, PyData.eqv, PyData.eqvAll]
    simp only [dEq, this, Option.map_some, ofO_some]
  rw [e, mkS_beq, Bool.and_true]
theorem dEq_nil1 {q : List Nat} {s : Sto} : dEq (.lst []) (.lst [.str (mkS q)]) s = .ok (.bl false) s := by
  have : dEqB s (.lst []) (.lst [.str (mkS q)]) = some false := by
    simp [dEqB, toPyS, toPy, toPys, PyData.depth, PyData.depthAll, PyData.eqv, PyData.eqvAll]
  simp only [dEq, this, Option.map_some, ofO_some]
theorem str_obj {a b : List Nat} : dAdd nwF (.str (mkS a)) (.str (mkS b)) = fun s => if a.length + b.length ≤ 1000000 then .ok (.str (mkS (a ++ b))) s else .bad := by
  funext s
  have e : mkS a ++ mkS b = mkS (a ++ b) := TL.ext_tl (TL.tl_append _ _)
  simp only [dAdd, mkS_len, e]
theorem asS_lvs (ps : List (List Nat)) : asS (lvs ps) = some (ps.map mkS) := by
  have := asS_map (ps.map mkS)
  rw [List.map_map] at this
  exact this
theorem sum_mkS (ps : List (List Nat)) : ((ps.map mkS).map (·.length)).sum = (ps.map (·.length)).sum := by
  rw [List.map_map]
  congr 1
theorem dJoin_lst {ps : List (List Nat)} {s : Sto} {d : Dt} (hd : asQ s d = some (lvs ps)) (h : (ps.map (·.length)).sum + ps.length ≤ 1000000) : dJoin (.str (mkS [47])) d s = .ok (.str (mkS (TL.joinL [47] ps))) s := by
  simp only [dJoin, hd, Option.bind_some, asS_lvs]
  rw [sum_mkS, List.length_map, if_pos (by rw [mkS_len]; simpa using h), List.map_map]
  have : ((fun x : Str => x.cps.toList) ∘ mkS) = id := by funext l; rfl
  rw [this, List.map_id]
theorem splC_last_ne (l : List Nat) : ∃ p, (splC 47 l).getLast? = some p := by
  cases e : (splC 47 l).getLast? with
  | none => exact absurd (List.getLast?_eq_none_iff.mp e) (splC_ne 47 l)
  | some p => exact ⟨p, rfl⟩
@[simp] theorem ev_tryH {ih ie : Nat} {tb : List Nat} {fb : Sx} {env : En} {s : Sto} : sTryH ih ie tb fb env s = (match fb env s with | .exc c env' s' => if c ∈ tb ∧ ie < env'.length then .fl (.nx ((env'.set ih (some (.exc c))).set ie none)) s' else .bad | r => r) := rfl
@[simp] theorem ev_setI {fo fi fv : Ex} {env : En} {s : Sto} : sSetI fo fi fv env s = sBnd (fv env) env (fun v => sBnd (fo env) env fun x => sBnd (fi env) env fun y s => match putAt x y v s with | some s' => .fl (.nx env) s' | none => .bad) s := rfl
@[simp] theorem ev_raise {c : Nat} {env : En} {s : Sto} : sRaise c env s = .exc c env s := rfl
@[simp] theorem dIsx_exc {tb : List (Nat × Bool)} {c : Nat} {s : Sto} : dIsx tb (.exc c) s = ofO s ((tb.lookup c).map .bl) := rfl
end Pd
/-! What stands in the store, part by part (parts stand apart). -/
namespace Pd
open PySem L2
/-- an assertion about some places of the store -/
structure SP where
  P : List Nat → Sto → Prop
  loc : ∀ {fp : List Nat} {s s' : Sto}, (∀ i ∈ fp, s'[i]? = s[i]?) → P fp s → P fp s'
  bd : ∀ {fp : List Nat} {s : Sto}, P fp s → ∀ i ∈ fp, i < s.length
def At (i : Nat) (m : Mo) : SP where
  P := fun fp s => fp = [i] ∧ s[i]? = some m
  loc := fun h ⟨e, q⟩ => ⟨e, by rw [h _ (by rw [e]; exact List.mem_singleton_self _)]; exact q⟩
  bd := fun ⟨e, q⟩ j hj => by
    rw [e, List.mem_singleton] at hj
    rw [hj]
    exact (List.getElem?_eq_some_iff.mp q).1
def Exi {α : Type} (f : α → SP) : SP where
  P := fun fp s => ∃ a, (f a).P fp s
  loc := fun h ⟨a, q⟩ => ⟨a, (f a).loc h q⟩
  bd := fun ⟨a, q⟩ => (f a).bd q
def Pu (p : Prop) : SP where
  P := fun fp _ => fp = [] ∧ p
  loc := fun _ q => q
  bd := fun ⟨e, _⟩ i hi => by rw [e] at hi; cases hi
def Emp : SP := ⟨fun fp _ => fp = [], fun _ h => h, fun e i hi => by rw [e] at hi; cases hi⟩
def Star (A B : SP) : SP where
  P := fun fp s => ∃ f1 f2, fp = f1 ++ f2 ∧ A.P f1 s ∧ B.P f2 s
  loc := fun h ⟨f1, f2, e, q1, q2⟩ => ⟨f1, f2, e, A.loc (fun i hi => h i (by rw [e]; exact List.mem_append_left _ hi)) q1, B.loc (fun i hi => h i (by rw [e]; exact List.mem_append_right _ hi)) q2⟩
  bd := fun ⟨f1, f2, e, q1, q2⟩ i hi => by
    rw [e] at hi
    rcases List.mem_append.mp hi with hi | hi
    · exact A.bd q1 i hi
    · exact B.bd q2 i hi
def Sts : List SP → SP
  | [] => Emp
  | A :: L => Star A (Sts L)
def Own (L : List SP) (s : Sto) : Prop := ∃ fp : List Nat, fp.Nodup ∧ (Sts L).P fp s
section
variable {A B : SP} {L L' R : List SP} {s : Sto}
theorem own_nil : Own [] s := ⟨[], List.nodup_nil, rfl⟩
theorem Sts.perm (h : L.Perm L') : ∀ {fp : List Nat}, (Sts L).P fp s → ∃ fp', fp'.Perm fp ∧ (Sts L').P fp' s := by
  induction h with
  | nil => exact fun q => ⟨_, List.Perm.refl _, q⟩
  | cons x _ ih =>
    rintro fp ⟨f1, f2, e, q1, q2⟩
    obtain ⟨f2', p, q⟩ := ih q2
    exact ⟨f1 ++ f2', by rw [e]; exact List.Perm.append_left _ p, f1, f2', rfl, q1, q⟩
  | swap x y l =>
    rintro fp ⟨f1, f2, e, q1, f3, f4, e2, q2, q3⟩
    refine ⟨f3 ++ (f1 ++ f4), ?_, f3, f1 ++ f4, rfl, q2, f1, f4, rfl, q1, q3⟩
    rw [e, e2, ← List.append_assoc, ← List.append_assoc]
    exact List.Perm.append_right _ List.perm_append_comm
  | trans _ _ ih1 ih2 =>
    intro fp q
    obtain ⟨f1, p1, q1⟩ := ih1 q
    obtain ⟨f2, p2, q2⟩ := ih2 q1
    exact ⟨f2, p2.trans p1, q2⟩
theorem Own.perm (o : Own L s) (h : L.Perm L') : Own L' s := by
  obtain ⟨fp, nd, q⟩ := o
  obtain ⟨fp', p, q'⟩ := Sts.perm h q
  exact ⟨fp', p.nodup_iff.mpr nd, q'⟩
theorem perm_pull {α : Type} : ∀ (L : List α) (k : Nat) (h : k < L.length), L.Perm (L[k] :: L.eraseIdx k)
  | a :: L, 0, _ => List.Perm.refl _
  | a :: L, k + 1, h => ((perm_pull L k (by simpa using h)).cons a).trans (List.Perm.swap _ _ _)
/-- the part at a place comes to the front -/
theorem Own.pull (k : Nat) (o : Own L s) (h : k < L.length := by decide) : Own (L[k] :: L.eraseIdx k) s := o.perm (perm_pull L k h)
theorem perm_push {α : Type} (a : α) : ∀ (L : List α) (k : Nat), k ≤ L.length → (a :: L).Perm (L.insertIdx k a)
  | L, 0, _ => List.Perm.refl _
  | b :: L, k + 1, h => (List.Perm.swap _ _ _).trans ((perm_push a L k (by simpa using h)).cons b)
/-- the front goes to a place -/
theorem Own.push (k : Nat) (o : Own (A :: L) s) (h : k ≤ L.length := by decide) : Own (L.insertIdx k A) s := o.perm (perm_push A L k h)
theorem Own.drop (o : Own (A :: L) s) : Own L s := by
  obtain ⟨fp, nd, f1, f2, e, q1, q2⟩ := o
  rw [e] at nd
  exact ⟨f2, (List.nodup_append.mp nd).2.1, q2⟩
theorem Own.get {i : Nat} {m : Mo} (o : Own (At i m :: L) s) : s[i]? = some m := by
  obtain ⟨fp, nd, f1, f2, e, q1, q2⟩ := o
  exact q1.2
theorem Own.lt {i : Nat} {m : Mo} (o : Own (At i m :: L) s) : i < s.length := (List.getElem?_eq_some_iff.mp o.get).1
theorem Own.set {i : Nat} {m : Mo} (o : Own (At i m :: L) s) (m' : Mo) : Own (At i m' :: L) (s.set i m') := by
  have hl := o.lt
  obtain ⟨fp, nd, f1, f2, e, ⟨q1, q3⟩, q2⟩ := o
  refine ⟨fp, nd, f1, f2, e, ⟨q1, List.getElem?_set_self hl⟩, (Sts L).loc (fun j hj => ?_) q2⟩
  rw [e, q1] at nd
  refine List.getElem?_set_ne fun z => ?_
  subst z
  exact (List.nodup_append.mp nd).2.2 i (List.mem_singleton_self _) i hj rfl
theorem Own.app (o : Own L s) (m : List Mo) : Own L (s ++ m) := by
  obtain ⟨fp, nd, q⟩ := o
  exact ⟨fp, nd, (Sts L).loc (fun i hi => List.getElem?_append_left ((Sts L).bd q i hi)) q⟩
theorem Own.new (o : Own L s) (m : Mo) : Own (At s.length m :: L) (s ++ [m]) := by
  have o2 := o
  obtain ⟨fp, nd, q⟩ := o
  refine ⟨[s.length] ++ fp, ?_, [s.length], fp, rfl, ⟨rfl, by simp⟩, (Sts L).loc (fun i hi => List.getElem?_append_left ((Sts L).bd q i hi)) q⟩
  refine List.nodup_append.mpr ⟨by simp, nd, fun a ha b hb => ?_⟩
  rw [List.mem_singleton] at ha
  have := (Sts L).bd q b hb
  omega
theorem Own.ne {i j : Nat} {m n : Mo} (o : Own (At i m :: At j n :: L) s) : i ≠ j := by
  obtain ⟨fp, nd, f1, f2, e, ⟨q1, q3⟩, f3, f4, e2, ⟨q4, _⟩, _⟩ := o
  rw [e, e2, q1, q4] at nd
  intro z
  subst z
  simp at nd
theorem own_ex {α : Type} {f : α → SP} : Own (Exi f :: L) s ↔ ∃ a, Own (f a :: L) s :=
  ⟨fun ⟨fp, nd, f1, f2, e, ⟨a, q1⟩, q2⟩ => ⟨a, fp, nd, f1, f2, e, q1, q2⟩, fun ⟨a, fp, nd, f1, f2, e, q1, q2⟩ => ⟨fp, nd, f1, f2, e, ⟨a, q1⟩, q2⟩⟩
theorem own_pu {p : Prop} : Own (Pu p :: L) s ↔ p ∧ Own L s :=
  ⟨fun ⟨fp, nd, f1, f2, e, ⟨e1, q1⟩, q2⟩ => ⟨q1, fp, nd, by rw [e, e1]; exact q2⟩, fun ⟨q1, fp, nd, q2⟩ => ⟨fp, nd, [], fp, rfl, ⟨rfl, q1⟩, q2⟩⟩
theorem sts_app : ∀ {L R : List SP} {fp : List Nat}, (Sts (L ++ R)).P fp s ↔ ∃ f1 f2, fp = f1 ++ f2 ∧ (Sts L).P f1 s ∧ (Sts R).P f2 s
  | [], R, fp => ⟨fun h => ⟨[], fp, rfl, rfl, h⟩, fun ⟨f1, f2, e, e1, h⟩ => by
      have e1 : f1 = [] := e1
      rw [e, e1]
      exact h⟩
  | A :: L, R, fp => ⟨fun ⟨f1, f2, e, q1, q2⟩ => by
      obtain ⟨f3, f4, e2, q3, q4⟩ := sts_app.mp q2
      exact ⟨f1 ++ f3, f4, by rw [e, e2, List.append_assoc], ⟨f1, f3, rfl, q1, q3⟩, q4⟩, fun ⟨f1, f2, e, ⟨f3, f4, e2, q3, q4⟩, q2⟩ => ⟨f3, f4 ++ f2, by rw [e, e2, List.append_assoc], q3, sts_app.mpr ⟨f4, f2, rfl, q4, q2⟩⟩⟩
theorem own_sts : Own (Sts R :: L) s ↔ Own (R ++ L) s :=
  ⟨fun ⟨fp, nd, f1, f2, e, q1, q2⟩ => ⟨fp, nd, sts_app.mpr ⟨f1, f2, e, q1, q2⟩⟩, fun ⟨fp, nd, q⟩ => by
    obtain ⟨f1, f2, e, q1, q2⟩ := sts_app.mp q
    exact ⟨fp, nd, f1, f2, e, q1, q2⟩⟩
theorem range_getD : ∀ (L : List SP) (n : Nat), n ≤ L.length → (List.range n).map (fun k => L.getD k Emp) = L.take n
  | L, 0, _ => rfl
  | [], n + 1, h => by simp at h
  | A :: L, n + 1, h => by
    rw [List.range_succ_eq_map, List.map_cons, List.map_map, List.take_succ_cons]
    exact congrArg (A :: ·) (range_getD L n (by simpa using h))
/-- the first parts in another order -/
theorem Own.ix (ix : List Nat) (o : Own L s) (h : ix.Perm (List.range ix.length) := by decide) (hl : ix.length ≤ L.length := by simp) : Own (ix.map (fun k => L.getD k Emp) ++ L.drop ix.length) s := by
  refine o.perm ?_
  have e := range_getD L ix.length hl
  have p : (L.take ix.length).Perm (ix.map fun k => L.getD k Emp) := by
    rw [← e]
    exact (h.map _).symm
  have q := p.append_right (L.drop ix.length)
  rw [List.take_append_drop] at q
  exact q
theorem own2 {A B : SP} {L : List SP} {s : Sto} (o : Own (A :: B :: L) s) : Own (B :: A :: L) s := o.pull 1 (by simp)
theorem own3 {A B C : SP} {L : List SP} {s : Sto} (o : Own (A :: B :: C :: L) s) : Own (C :: A :: B :: L) s := o.pull 2 (by simp)
theorem own4 {A B C D : SP} {L : List SP} {s : Sto} (o : Own (A :: B :: C :: D :: L) s) : Own (D :: A :: B :: C :: L) s := o.pull 3 (by simp)
theorem own5 {A B C D E : SP} {L : List SP} {s : Sto} (o : Own (A :: B :: C :: D :: E :: L) s) : Own (E :: A :: B :: C :: D :: L) s := o.pull 4 (by simp)
theorem own6 {A B C D E F : SP} {L : List SP} {s : Sto} (o : Own (A :: B :: C :: D :: E :: F :: L) s) : Own (F :: A :: B :: C :: D :: E :: L) s := o.pull 5 (by simp)
/-- one assertion for another -/
theorem Own.imp {A' : SP} (o : Own (A :: L) s) (h : ∀ fp, A.P fp s → A'.P fp s) : Own (A' :: L) s := by
  obtain ⟨fp, nd, f1, f2, e, q1, q2⟩ := o
  exact ⟨fp, nd, f1, f2, e, h _ q1, q2⟩
end
end Pd
namespace Pd
open PySem L2
/-! ### more evaluation rules -/
/-- a while loop by a measure -/
theorem wh_meas {t : Tx} {body : Sx} (I : Nat → En → Sto → Prop) (P : En → Sto → Prop)
    (h : ∀ n env s, I n env s → (∃ s1, t env s = .ok false s1 ∧ P env s1) ∨ (∃ s1, t env s = .ok true s1 ∧ ∃ m e s', m < n ∧ (body env s1 = .fl (.nx e) s' ∨ body env s1 = .fl (.ct e) s') ∧ I m e s')) :
    ∀ (fuel n : Nat) (env : En) (s : Sto), n < fuel → I n env s → ∃ e s', whGo t body fuel env s = .fl (.nx e) s' ∧ P e s'
  | 0, n, env, s, hn, _ => by omega
  | fuel + 1, n, env, s, hn, hi => by
    rcases h n env s hi with ⟨s1, e1, hp⟩ | ⟨s1, e1, m, e, s', hm, hb, hi'⟩
    · exact ⟨env, s1, by simp [whGo, e1], hp⟩
    · obtain ⟨e2, s2, h1, h2⟩ := wh_meas I P h fuel m e s' (by omega) hi'
      refine ⟨e2, s2, ?_, h2⟩
      rcases hb with hb | hb
      · simp [whGo, e1, hb, h1]
      · simp [whGo, e1, hb, h1]
/-- a for loop over written-out items -/
theorem for_map0 {α : Type} {tg : Tg} {body : Sx} {ok : Sto → Prop} {f : α → Dt} (I : List α → En → Sto → Prop) (all : List α) : ∀ (l pre : List α) (env : En) (s : Sto), all = pre ++ l → I pre env s →
    (∀ pre a post env s, all = pre ++ a :: post → I pre env s → ∃ env1, tg (f a) env s = some env1 ∧ ∃ e s', (body env1 s = .fl (.nx e) s' ∨ body env1 s = .fl (.ct e) s') ∧ I (pre ++ [a]) e s') → (∀ pre env s, I pre env s → ok s) →
    ∃ e s', forGo tg body ok (l.map f) env s = .fl (.nx e) s' ∧ I all e s'
  | [], pre, env, s, ha, hi, hs, hd => ⟨env, s, by simp only [List.map_nil, forGo, if_pos (hd pre env s hi)], by rw [ha, List.append_nil]; exact hi⟩
  | a :: r, pre, env, s, ha, hi, hs, hd => by
    obtain ⟨env1, h1, e, s', h2, h3⟩ := hs pre a r env s ha hi
    obtain ⟨e2, s2, h4, h5⟩ := for_map0 I all r (pre ++ [a]) e s' (by rw [ha, List.append_assoc]; rfl) h3 hs hd
    refine ⟨e2, s2, ?_, h5⟩
    rcases h2 with h2 | h2
    · simp only [List.map_cons, forGo, if_pos (hd pre env s hi), h1, h2]; exact h4
    · simp only [List.map_cons, forGo, if_pos (hd pre env s hi), h1, h2]; exact h4
theorem for_map {α : Type} {tg : Tg} {body : Sx} {ok : Sto → Prop} {f : α → Dt} (I : List α → En → Sto → Prop) (l : List α) (env : En) (s : Sto) (h0 : I [] env s)
    (hs : ∀ pre a post env s, l = pre ++ a :: post → I pre env s → ∃ env1, tg (f a) env s = some env1 ∧ ∃ e s', (body env1 s = .fl (.nx e) s' ∨ body env1 s = .fl (.ct e) s') ∧ I (pre ++ [a]) e s') (hd : ∀ pre env s, I pre env s → ok s) :
    ∃ e s', forGo tg body ok (l.map f) env s = .fl (.nx e) s' ∧ I l e s' := for_map0 I l l [] env s rfl h0 hs hd
/-- turns of a for loop that leave the store as it is -/
theorem for_skip {α : Type} {tg : Tg} {body : Sx} {ok : Sto → Prop} {f : α → Dt} {s : Sto} (E : En → Prop) (hok : ok s) : ∀ (l : List α) (rest : List Dt) (env : En), E env → (∀ a ∈ l, ∀ env, E env → ∃ env1, tg (f a) env s = some env1 ∧ ∃ e, body env1 s = .fl (.nx e) s ∧ E e) →
    ∃ e, E e ∧ forGo tg body ok (l.map f ++ rest) env s = forGo tg body ok rest e s
  | [], rest, env, he, _ => ⟨env, he, rfl⟩
  | a :: l, rest, env, he, h => by
    obtain ⟨env1, h1, e, h2, h3⟩ := h a List.mem_cons_self env he
    obtain ⟨e2, h4, h5⟩ := for_skip E hok l rest e h3 fun a ha => h a (List.mem_cons_of_mem _ ha)
    refine ⟨e2, h4, ?_⟩
    rw [← h5]
    simp only [List.map_cons, List.cons_append, forGo, if_pos hok, h1, h2]
theorem putAt_at {s : Sto} {i v : Nat} {l : List Dt} {d : Dt} (h : s[i]? = some (.lst l)) (hv : v < l.length) : Pd.putAt (.obj i) (.int (v : Int)) d s = some (s.set i (.lst (l.set v d))) := by
  have e : ixN l.length (v : Int) = some v := by
    unfold ixN
    rw [if_pos (Int.natCast_nonneg v), if_pos (by omega)]
    simp
  simp only [Pd.putAt, lstAt_obj h, e, Option.map_some]
theorem cut_drop {α : Type} (xs : List α) (k : Nat) : cutD xs (some (k : Int)) none = xs.drop k := by
  unfold cutD
  rw [HT.sIx_none, HT.sIx_nat]
  by_cases h : k ≤ xs.length
  · rw [Nat.min_eq_left h, List.take_of_length_le (by rw [List.length_drop]; omega)]
  · rw [Nat.min_eq_right (by omega), List.drop_length, List.drop_of_length_le (by omega), List.take_nil]
theorem app_get {s : Sto} {m : List Mo} {i : Nat} {o : Mo} (h : s[i]? = some o) : (s ++ m)[i]? = some o := by
  rw [List.getElem?_append_left (List.getElem?_eq_some_iff.mp h).1]
  exact h
theorem truD_at {s : Sto} {i : Nat} {l : List Dt} (h : s[i]? = some (.lst l)) : truD s (.obj i) = some (!l.isEmpty) := truD_obj h
theorem dExt_obj {s : Sto} {i : Nat} {l m : List Dt} {y : Dt} (h : s[i]? = some (.lst l)) (hy : trkL s y = some m) (hz : l.length + m.length ≤ 1000000) : dExt (.obj i) y s = .ok .non (s.set i (.lst (l ++ m))) := by
  simp only [dExt, lstAt_obj h, hy]
  rw [if_pos (by rw [sizeLine_eq]; omega)]
theorem trkL_lst {s : Sto} {l : List Dt} : trkL s (.lst l) = some l := rfl
theorem trkL_obj {s : Sto} {i : Nat} {l : List Dt} (h : s[i]? = some (.lst l)) : trkL s (.obj i) = some l := by simp only [trkL, h]
theorem dPop0_obj {s : Sto} {i : Nat} {d : Dt} {l : List Dt} (h : s[i]? = some (.lst (d :: l))) : dPopAt (.obj i) (.int 0) s = .ok d (s.set i (.lst l)) := by
  have e : ixN (d :: l).length 0 = some 0 := by
    unfold ixN
    rw [if_pos (by decide), if_pos (by simp)]
    rfl
  simp only [dPopAt, lstAt_obj h, e, List.getElem?_cons_zero, List.eraseIdx_cons_zero]
theorem dApp_at {s : Sto} {i : Nat} {l : List Dt} {y : Dt} (h : s[i]? = some (.lst l)) (hz : l.length < 1000000) : dApp (.obj i) y s = .ok .non (s.set i (.lst (l ++ [y]))) := dApp_obj h (by rw [sizeLine_eq]; omega)
theorem dAdd_any {nw : List Dt → Sto → Out Dt} {x y : Dt} {l m : List Dt} {s : Sto} (hx : trkL s x = some l) (hy : trkL s y = some m) (h : l.length + m.length ≤ 1000000) : dAdd nw x y s = nw (l ++ m) s := by
  have hz : l.length + m.length ≤ sizeLine := by rw [sizeLine_eq]; omega
  cases x with
  | lst a =>
    have e : a = l := by simpa [trkL] using hx
    subst e
    simp only [dAdd, show trkL s (.lst a) = some a from rfl, hy, if_pos hz]
  | obj i =>
    simp only [dAdd, hx, hy, if_pos hz]
  | _ => simp [trkL] at hx
/-- texts as items of dicts -/
theorem valA_cons_eq {κ α : Type} [DecidableEq κ] {k : κ} {v : α} {r : List (κ × α)} : valA ((k, v) :: r) k = some v := by simp [valA]
theorem valA_cons_ne {κ α : Type} [DecidableEq κ] {k j : κ} {v : α} {r : List (κ × α)} (h : k ≠ j) : valA ((k, v) :: r) j = valA r j := by simp [valA, h]
theorem valA_nil {κ α : Type} [DecidableEq κ] {j : κ} : valA ([] : List (κ × α)) j = none := rfl
theorem Own.mem {L : List SP} {s : Sto} {i : Nat} {m : Mo} (o : Own L s) (h : At i m ∈ L) : s[i]? = some m := by
  obtain ⟨a, b, e⟩ := List.append_of_mem h
  rw [e] at o
  exact (o.perm List.perm_middle).get
/-! ### lists that a def tells, of the store or not -/
def OrS (A B : SP) : SP where
  P := fun fp s => A.P fp s ∨ B.P fp s
  loc := fun h q => q.elim (fun q => .inl (A.loc h q)) fun q => .inr (B.loc h q)
  bd := fun q => q.elim (fun q => A.bd q) fun q => B.bd q
theorem own_or {A B : SP} {L : List SP} {s : Sto} : Own (OrS A B :: L) s ↔ Own (A :: L) s ∨ Own (B :: L) s :=
  ⟨fun ⟨fp, nd, f1, f2, e, q1, q2⟩ => q1.elim (fun q => .inl ⟨fp, nd, f1, f2, e, q, q2⟩) fun q => .inr ⟨fp, nd, f1, f2, e, q, q2⟩,
   fun h => h.elim (fun ⟨fp, nd, f1, f2, e, q, q2⟩ => ⟨fp, nd, f1, f2, e, .inl q, q2⟩) fun ⟨fp, nd, f1, f2, e, q, q2⟩ => ⟨fp, nd, f1, f2, e, .inr q, q2⟩⟩
def LsA (r : Dt) (l : List Dt) : SP := OrS (Pu (r = .lst l)) (Exi fun p => Sts [Pu (r = .obj p), At p (.lst l)])
theorem own_ls {r : Dt} {l : List Dt} {L : List SP} {s : Sto} : Own (LsA r l :: L) s ↔ (r = .lst l ∧ Own L s) ∨ ∃ p, r = .obj p ∧ Own (At p (.lst l) :: L) s := by
  unfold LsA
  simp only [own_or, own_pu, own_ex, own_sts]
  constructor
  · rintro (h | ⟨p, h⟩)
    · exact .inl h
    · obtain ⟨e, h⟩ := own_pu.mp h
      exact .inr ⟨p, e, h⟩
  · rintro (h | ⟨p, e, h⟩)
    · exact .inl h
    · exact .inr ⟨p, own_pu.mpr ⟨e, h⟩⟩
theorem Own.trk {r : Dt} {l : List Dt} {L : List SP} {s : Sto} (o : Own (LsA r l :: L) s) : trkL s r = some l := by
  rcases own_ls.mp o with ⟨e, _⟩ | ⟨p, e, h⟩
  · rw [e]; rfl
  · rw [e]; exact trkL_obj h.get
theorem zeros_app (n : Nat) : List.replicate n (Dt.int 0) ++ [.int 0] = List.replicate (n + 1) (.int 0) := by rw [List.replicate_succ']
abbrev zs (n : Nat) : Mo := .lst (List.replicate n (.int 0))
/-- the town, at most so many draws -/
def Tw (t N : Nat) : SP := Exi fun n => Sts [Pu (n ≤ N), At t (zs n)]
theorem own_tw {t N : Nat} {R : List SP} {s : Sto} : Own (Tw t N :: R) s ↔ ∃ n, n ≤ N ∧ Own (At t (zs n) :: R) s := by
  unfold Tw
  simp only [own_ex, own_sts, List.cons_append, List.nil_append, own_pu]
theorem Own.more {t N M : Nat} {R : List SP} {s : Sto} (o : Own (Tw t N :: R) s) (h : N ≤ M) : Own (Tw t M :: R) s := by
  obtain ⟨n, hn, o⟩ := own_tw.mp o
  exact own_tw.mpr ⟨n, by omega, o⟩
/-! ### dicts with written keys -/
abbrev kS (x : String) : Key := Sum.inr (Str.ofString x)
theorem dget_of {s : Sto} {j : Nat} {kvs : List (Key × Dt)} {k : Str} {v : Dt} (h : s[j]? = some (.dic kvs)) (hv : valA kvs (Sum.inr k) = some v) : dDget (.obj j) (.str k) s = .ok v s := by
  simp only [dDget, dgetD, h, keyD, Option.map_some, hv]
theorem dput_of {s : Sto} {j : Nat} {kvs : List (Key × Dt)} {k : Str} {v : Dt} (h : s[j]? = some (.dic kvs)) (hl : kvs.length < 1000000) : dputD s (.obj j) (.str k) v = some (s.set j (.dic (putA kvs (Sum.inr k) v))) := by
  simp only [dputD, h, keyD, Option.bind_some]
  rw [if_pos (by rw [sizeLine_eq]; omega)]
@[simp] theorem ev_dput {fo fi fv : Ex} {env : En} {s : Sto} : sDput fo fi fv env s = sBnd (fv env) env (fun v => sBnd (fo env) env fun x => sBnd (fi env) env fun y s => match dputD s x y v with | some s' => .fl (.nx env) s' | none => .bad) s := rfl
theorem zip_fst {α β : Type} : ∀ {a : List α} {b : List β}, a.length = b.length → (a.zip b).map (·.1) = a
  | [], [], _ => rfl
  | x :: a, y :: b, h => by rw [List.zip_cons_cons, List.map_cons, zip_fst (by simpa using h)]
  | [], _ :: _, h => by simp at h
  | _ :: _, [], h => by simp at h
theorem zip_snd {α β : Type} : ∀ {a : List α} {b : List β}, a.length = b.length → (a.zip b).map (·.2) = b
  | [], [], _ => rfl
  | x :: a, y :: b, h => by rw [List.zip_cons_cons, List.map_cons, zip_snd (by simpa using h)]
  | [], _ :: _, h => by simp at h
  | _ :: _, [], h => by simp at h
/-! ### dicts walked -/
theorem set_self {s : Sto} {i : Nat} {m : Mo} (h : s[i]? = some m) : s.set i m = s := by
  apply List.ext_getElem?
  intro j
  by_cases e : i = j
  · subst e; rw [List.getElem?_set_self (List.getElem?_eq_some_iff.mp h).1, h]
  · rw [List.getElem?_set_ne e]
theorem lock_pure {fo f : Ex} {env : En} {s s1 : Sto} {i : Nat} {mo mo' : Mo} {d : Dt} (h1 : fo env s = .ok (.obj i) s1) (h2 : s[i]? = some mo) (h3 : lockM mo = some mo') (h4 : f env (s.set i mo') = .ok d (s.set i mo')) : eLock fo f env s = .ok d s := by
  have h5 : (s.set i mo')[i]? = some mo' := List.getElem?_set_self (List.getElem?_eq_some_iff.mp h2).1
  simp only [eLock, h1, h2, h3, h4, unlockO, if_pos h5, List.set_set, set_self h2]
theorem lock_run {fo f : Ex} {env : En} {s s1 s' : Sto} {i : Nat} {mo mo' : Mo} {d : Dt} (h1 : fo env s = .ok (.obj i) s1) (h2 : s[i]? = some mo) (h3 : lockM mo = some mo') (h4 : f env (s.set i mo') = .ok d s') (h5 : s'[i]? = some mo') : eLock fo f env s = .ok d (s'.set i mo) := by
  simp only [eLock, h1, h2, h3, h4, unlockO, if_pos h5]
theorem slock_run {fo : Ex} {f : Sx} {env : En} {s s1 s' : Sto} {i : Nat} {mo mo' : Mo} {fl : Fl} (h1 : fo env s = .ok (.obj i) s1) (h2 : s[i]? = some mo) (h3 : lockM mo = some mo') (h4 : f env (s.set i mo') = .fl fl s') (h5 : s'[i]? = some mo') : sLock fo f env s = .fl fl (s'.set i mo) := by
  simp only [sLock, h1, h2, h3, h4, unlockR, if_pos h5]
@[simp] theorem ev_keysL {f : Ex} {env : En} {s : Sto} : iKeysL f env s = bnd (β := List Dt × (Sto → Prop)) (f env) (fun d s => match d with
  | .obj i => match s[i]? with
    | some (.dicL kvs) => .ok (kvs.map fun kv => keyDt kv.1, fun s' => s'[i]? = some (.dicL kvs)) s
    | some (.ditL kvs) => if kvs.all (fun kv => decide (kv.1.length ≤ 1000)) = true then .ok (kvs.map fun kv => keysDt kv.1, fun s' => s'[i]? = some (.ditL kvs)) s else .bad
    | _ => .bad
  | _ => .bad) s := rfl
theorem ev_dnewK {env : En} {s : Sto} : eDnewK env s = .ok (.obj s.length) (s ++ [.dic []]) := rfl
theorem ev_dnewT {env : En} {s : Sto} : eDnewT env s = .ok (.obj s.length) (s ++ [.dit []]) := rfl
theorem ev_dpop1 {fo fe : Ex} {env : En} {s : Sto} : eDpop1 fo fe env s = bnd (fo env) (fun x s => if isDic s x = true then bnd (fe env) (fun y s => match dpopD s x y with | some (d, s') => .ok d s' | none => .bad) s else .bad) s := rfl
theorem isDic_dic {s : Sto} {i : Nat} {l : List (Key × Dt)} (h : s[i]? = some (.dic l)) : isDic s (.obj i) = true := by simp [isDic, h]
theorem dgetD_dic {s : Sto} {i : Nat} {l : List (Key × Dt)} {y : Dt} {k : Key} (h : s[i]? = some (.dic l)) (hk : keyD y = some k) : dgetD s (.obj i) y = some (valA l k) := by simp only [dgetD, h, hk, Option.map_some]
theorem keysOf_dic {s : Sto} {i : Nat} {l : List (Key × Dt)} (h : s[i]? = some (.dic l)) : keysOf s (.obj i) = some (l.map fun kv => keyDt kv.1) := by simp only [keysOf, h]
/-! ints sorted -/
theorem sortOk_ints : ∀ l : List Int, sortOk (l.map .int) = true
  | [] => rfl
  | i :: l => by
    simp only [List.map_cons, sortOk, mdD, List.all_cons, okD, Bool.true_and, List.all_map]
    simp [okD]
theorem dpts_all {l : List Dt} {n : Nat} (h : ∀ d ∈ l, dpt d = some n) : ∃ m, dpts l = some m ∧ m ≤ n := by
  induction l with
  | nil => exact ⟨0, rfl, Nat.zero_le _⟩
  | cons d l ih =>
    obtain ⟨m, h1, h2⟩ := ih fun x hx => h x (List.mem_cons_of_mem _ hx)
    refine ⟨max n m, ?_, by omega⟩
    simp only [dpts, h d List.mem_cons_self, h1]
theorem dNe_lst {l : List Dt} {n : Nat} {s : Sto} (h : ∀ d ∈ l, dpt d = some n) (hn : n ≤ 60) : dEq (.lst l) (.lst l) s = .ok (.bl true) s ∧ dNe (.lst l) (.lst l) s = .ok (.bl false) s := by
  obtain ⟨m, h1, h2⟩ := dpts_all h
  exact dEq_self (n := m + 1) (by simp only [dpt, h1, Option.map_some]) (by omega)
end Pd
/-! Parts found by a search; runs by steps. -/
namespace Pd
open PySem L2
section
variable {A B : SP} {L L1 L' R : List SP} {s : Sto}
inductive Tk : List SP → SP → List SP → Prop
  | hd {A : SP} {L : List SP} : Tk (A :: L) A L
  | tl {A B : SP} {L L1 : List SP} (h : Tk L A L1) : Tk (B :: L) A (B :: L1)
theorem Tk.perm {A : SP} : ∀ {L L1 : List SP}, Tk L A L1 → L.Perm (A :: L1)
  | _, _, .hd => List.Perm.refl _
  | _, _, .tl h => (h.perm.cons _).trans (List.Perm.swap _ _ _)
theorem Own.tk (o : Own L s) (h : Tk L A L1) : Own (A :: L1) s := o.perm h.perm
inductive Pm : List SP → List SP → Prop
  | rfl {L : List SP} : Pm L L
  | cons {A : SP} {L L1 L' : List SP} (h : Tk L A L1) (k : Pm L1 L') : Pm L (A :: L')
  | skip {B : SP} {L L' : List SP} (k : Pm L L') : Pm (B :: L) L'
theorem Pm.ex : ∀ {L L' : List SP}, Pm L L' → ∃ X, L.Perm (X ++ L')
  | _, _, .rfl => ⟨[], List.Perm.refl _⟩
  | _, _, .cons (A := A) h k => by
    obtain ⟨X, p⟩ := k.ex
    exact ⟨X, h.perm.trans ((p.cons _).trans List.perm_middle.symm)⟩
  | _, _, .skip (B := B) k => by
    obtain ⟨X, p⟩ := k.ex
    exact ⟨B :: X, p.cons _⟩
theorem Own.dropL : ∀ {X : List SP}, Own (X ++ L) s → Own L s
  | [], o => o
  | A :: X, o => Own.dropL (X := X) (Own.drop o)
theorem Own.pm (o : Own L s) (h : Pm L L') : Own L' s := by
  obtain ⟨X, p⟩ := h.ex
  exact (o.perm p).dropL
theorem Own.at_ {i : Nat} {m : Mo} (o : Own L s) (h : Tk L (At i m) L1) : s[i]? = some m := (o.tk h).get
theorem Own.setT {i : Nat} {m : Mo} (o : Own L s) (h : Tk L (At i m) L1) (m' : Mo) : Own (At i m' :: L1) (s.set i m') := (o.tk h).set m'
theorem Own.ltT {i : Nat} {m : Mo} (o : Own L s) (h : Tk L (At i m) L1) : i < s.length := (o.tk h).lt
end
/-! ### what stands at a place, for simp -/
section
variable {s : Sto} {i c : Nat}
theorem insD_at : insD s c (.obj i) = (match s[i]? with
    | some (.ins c' ds) => if c' = c then some (i, ds) else none
    | _ => none) := rfl
theorem isLst_at : isLst s (.obj i) = (match s[i]? with
    | some (.lst l) => some l
    | _ => none).isSome := rfl
theorem asL_at : asL s (.obj i) = (match s[i]? with
    | some (.lst l) => some l
    | _ => none) := rfl
theorem asQ_at : asQ s (.obj i) = (match s[i]? with
    | some (.lst l) => some l
    | _ => none) := rfl
theorem lstAt_at : lstAt s (.obj i) = (match s[i]? with
    | some (.lst l) => some (i, l)
    | _ => none) := rfl
theorem trkL_at : trkL s (.obj i) = (match s[i]? with
    | some (.lst l) => some l
    | _ => none) := rfl
theorem truD_atS : truD s (.obj i) = (match s[i]? with
    | some (.lst l) => some (!l.isEmpty)
    | some (.dic kvs) => some (!kvs.isEmpty)
    | _ => none) := rfl
theorem dLen_at : dLen (.obj i) s = ofO s ((match s[i]? with
    | some (.lst l) => some l.length
    | some (.dic kvs) => some kvs.length
    | some (.dit kvs) => some kvs.length
    | _ => none).map fun (n : Nat) => .int n) := by
  unfold dLen lenD
  rfl
theorem dIx_at {k : Int} : dIx (.obj i) (.int k) s = ofO s ((asQ s (.obj i)).bind fun l => atI l k) := rfl
theorem isDic_at : isDic s (.obj i) = (match s[i]? with
    | some (.dic _) => true
    | some (.dit _) => true
    | some (.dicL _) => true
    | some (.ditL _) => true
    | _ => false) := by unfold isDic; rfl
theorem setFD_at {k : Nat} {d y : Dt} : setFD s c k d y = (insD s c d).bind fun p => if k ≤ p.2.length then some (s.set p.1 (.ins c (putI k y p.2))) else none := rfl
end
/-! ### runs by steps -/
def WO {α : Type} (o : Out α) (Q : α → Sto → Prop) (X : Nat → Sto → Prop) : Prop := match o with
  | .ok d s => Q d s
  | .exc c s => X c s
  | .bad => False
structure Ks where
  nx : En → Sto → Prop
  rt : Dt → Sto → Prop
  bk : En → Sto → Prop
  ct : En → Sto → Prop
  ex : Nat → En → Sto → Prop
def KR (K : Ks) : Res → Prop
  | .fl (.nx e) s => K.nx e s
  | .fl (.rt d) s => K.rt d s
  | .fl (.bk e) s => K.bk e s
  | .fl (.ct e) s => K.ct e s
  | .exc c e s => K.ex c e s
  | .bad => False
def WS (f : Sx) (K : Ks) (env : En) (s : Sto) : Prop := KR K (f env s)
def WE (f : Ex) (env : En) (s : Sto) (Q : Dt → Sto → Prop) (X : Nat → Sto → Prop) : Prop := WO (f env s) Q X
def WT (f : Tx) (env : En) (s : Sto) (Q : Bool → Sto → Prop) (X : Nat → Sto → Prop) : Prop := WO (f env s) Q X
def noX : Nat → Sto → Prop := fun _ _ => False
theorem wo_iff {α : Type} {o : Out α} {Q : α → Sto → Prop} (h : WO o Q noX) : ∃ d s, o = .ok d s ∧ Q d s := by
  cases o with
  | ok d s => exact ⟨d, s, rfl, h⟩
  | exc c s => exact h.elim
  | bad => exact h.elim
theorem wo_of {α : Type} {o : Out α} {Q : α → Sto → Prop} {X : Nat → Sto → Prop} {d : α} {s : Sto} (e : o = .ok d s) (h : Q d s) : WO o Q X := by rw [e]; exact h
theorem wo_ok {α : Type} {Q : α → Sto → Prop} {X : Nat → Sto → Prop} {d : α} {s : Sto} (h : Q d s) : WO (.ok d s) Q X := h
theorem wo_exc {α : Type} {o : Out α} {Q : α → Sto → Prop} {X : Nat → Sto → Prop} {c : Nat} {s : Sto} (e : o = .exc c s) (h : X c s) : WO o Q X := by rw [e]; exact h
theorem wo_mono {α : Type} {o : Out α} {Q Q' : α → Sto → Prop} {X X' : Nat → Sto → Prop} (h : WO o Q X) (hq : ∀ d s, Q d s → Q' d s) (hx : ∀ c s, X c s → X' c s) : WO o Q' X' := by
  cases o with
  | ok d s => exact hq _ _ h
  | exc c s => exact hx _ _ h
  | bad => exact h.elim
section
variable {f g : Sx} {K : Ks} {env e : En} {s s1 : Sto} {d : Dt} {fe : Ex} {ft : Tx} {Q : Dt → Sto → Prop} {X : Nat → Sto → Prop}
theorem ws_seq (h : WS f ⟨fun e s => WS g K e s, K.rt, K.bk, K.ct, K.ex⟩ env s) : WS (sSeq f g) K env s := by
  unfold WS at h ⊢
  simp only [sSeq]
  cases e : f env s with
  | fl fl s' =>
    rw [e] at h
    cases fl <;> exact h
  | exc c e' s' => rw [e] at h; exact h
  | bad => rw [e] at h; exact h
theorem ws_step (h : f env s = .fl (.nx e) s1) (k : WS g K e s1) : WS (sSeq f g) K env s := by
  unfold WS at k ⊢
  simp only [sSeq, h]
  exact k
theorem ws_out (h : f env s = .fl (.rt d) s1) (k : K.rt d s1) : WS (sSeq f g) K env s := by
  unfold WS
  simp only [sSeq, h]
  exact k
theorem ws_nx (h : f env s = .fl (.nx e) s1) (k : K.nx e s1) : WS f K env s := by unfold WS; rw [h]; exact k
theorem ws_rt (h : f env s = .fl (.rt d) s1) (k : K.rt d s1) : WS f K env s := by unfold WS; rw [h]; exact k
theorem ws_bk (h : f env s = .fl (.bk e) s1) (k : K.bk e s1) : WS f K env s := by unfold WS; rw [h]; exact k
theorem ws_ct (h : f env s = .fl (.ct e) s1) (k : K.ct e s1) : WS f K env s := by unfold WS; rw [h]; exact k
theorem ws_ex {c : Nat} (h : f env s = .exc c e s1) (k : K.ex c e s1) : WS f K env s := by unfold WS; rw [h]; exact k
theorem ws_mono {K' : Ks} (h : WS f K env s) (h1 : ∀ e s, K.nx e s → K'.nx e s) (h2 : ∀ e s, K.rt e s → K'.rt e s) (h3 : ∀ e s, K.bk e s → K'.bk e s) (h4 : ∀ e s, K.ct e s → K'.ct e s) (h5 : ∀ c e s, K.ex c e s → K'.ex c e s) : WS f K' env s := by
  unfold WS at h ⊢
  cases e : f env s with
  | fl fl s' =>
    rw [e] at h
    cases fl
    · exact h1 _ _ h
    · exact h2 _ _ h
    · exact h3 _ _ h
    · exact h4 _ _ h
  | exc c e' s' => rw [e] at h; exact h5 _ _ _ h
  | bad => rw [e] at h; exact h
/-- a def's run -/
theorem wf_fn {n : Nat} {ds : List Dt} (h : WS f ⟨fun _ s => Q .non s, Q, fun _ _ => False, fun _ _ => False, fun c _ s => X c s⟩ (ds.map some ++ List.replicate (n - ds.length) none) s) : WO (fnOf n f ds s) Q X := by
  unfold WS at h
  unfold fnOf
  cases e : f (ds.map some ++ List.replicate (n - ds.length) none) s with
  | fl fl s' =>
    rw [e] at h
    cases fl
    · exact h
    · exact h
    · exact h.elim
    · exact h.elim
  | exc c e' s' => rw [e] at h; exact h
  | bad => rw [e] at h; exact h
/-! expressions -/
theorem we_ok (h : fe env s = .ok d s1) (k : Q d s1) : WE fe env s Q X := by unfold WE; rw [h]; exact k
theorem wt_ok {b : Bool} {Q : Bool → Sto → Prop} (h : ft env s = .ok b s1) (k : Q b s1) : WT ft env s Q X := by unfold WT; rw [h]; exact k
theorem wo_bnd {α β : Type} {m : Sto → Out α} {k : α → Sto → Out β} {Q : β → Sto → Prop} (h : WO (m s) (fun a s' => WO (k a s') Q X) X) : WO (bnd m k s) Q X := by
  unfold bnd
  cases e : m s with
  | ok a s' => rw [e] at h; exact h
  | exc c s' => rw [e] at h; exact h
  | bad => rw [e] at h; exact h
theorem we_un {op : Dt → Sto → Out Dt} (h : WE fe env s (fun d s' => WO (op d s') Q X) X) : WE (eUn op fe) env s Q X := wo_bnd h
theorem we_op {op : Dt → Dt → Sto → Out Dt} {fb : Ex} (h : WE fe env s (fun x s' => WE fb env s' (fun y s' => WO (op x y s') Q X) X) X) : WE (eOp op fe fb) env s Q X := wo_bnd (wo_mono h (fun _ _ k => wo_bnd k) fun _ _ k => k)
theorem we_and {fb : Ex} (h : WE fe env s (fun d s' => match truD s' d with | some true => WE fb env s' Q X | some false => Q d s' | none => False) X) : WE (eAnd fe fb) env s Q X := wo_bnd (wo_mono h (fun d s' k => by
  revert k
  cases truD s' d with
  | none => exact fun k => k
  | some b => cases b <;> exact fun k => k) fun _ _ k => k)
theorem we_if {fa fb : Ex} (h : WT ft env s (fun c s' => if c = true then WE fa env s' Q X else WE fb env s' Q X) X) : WE (eIf ft fa fb) env s Q X := wo_bnd (wo_mono h (fun d s' k => by cases d <;> exact k) fun _ _ k => k)
theorem wt_tru {Q : Bool → Sto → Prop} (h : WE fe env s (fun d s' => WO (ofB s' (truD s' d)) Q X) X) : WT (tTru fe) env s Q X := wo_bnd h
theorem wt_bl {Q : Bool → Sto → Prop} (h : WE fe env s (fun d s' => ∃ b, d = .bl b ∧ Q b s') X) : WT (tBl fe) env s Q X := wo_bnd (wo_mono h (fun d s' k => by
  obtain ⟨b, e, k⟩ := k
  subst e
  exact k) fun _ _ k => k)
theorem wt_not {Q : Bool → Sto → Prop} (h : WT ft env s (fun c s' => Q (!c) s') X) : WT (tNot ft) env s Q X := wo_bnd h
theorem wt_and {fu : Tx} {Q : Bool → Sto → Prop} (h : WT ft env s (fun c s' => if c = true then WT fu env s' Q X else Q false s') X) : WT (tAnd ft fu) env s Q X := wo_bnd (wo_mono h (fun d s' k => by cases d <;> exact k) fun _ _ k => k)
theorem wt_or {fu : Tx} {Q : Bool → Sto → Prop} (h : WT ft env s (fun c s' => if c = true then Q true s' else WT fu env s' Q X) X) : WT (tOr ft fu) env s Q X := wo_bnd (wo_mono h (fun d s' k => by cases d <;> exact k) fun _ _ k => k)
/-- several -/
def WA (fs : List Ex) (env : En) (s : Sto) (Q : List Dt → Sto → Prop) (X : Nat → Sto → Prop) : Prop := WO (evs fs env s) Q X
theorem wa_nil {Q : List Dt → Sto → Prop} (h : Q [] s) : WA [] env s Q X := h
theorem wa_cons {fs : List Ex} {Q : List Dt → Sto → Prop} (h : WE fe env s (fun d s' => WA fs env s' (fun ds s'' => Q (d :: ds) s'') X) X) : WA (fe :: fs) env s Q X := by
  unfold WA
  rw [evs_cons]
  exact wo_bnd (wo_mono h (fun d s' k => wo_bnd k) fun _ _ k => k)
theorem wa_ok {fs : List Ex} {ds : List Dt} {Q : List Dt → Sto → Prop} (h : evs fs env s = .ok ds s1) (k : Q ds s1) : WA fs env s Q X := by unfold WA; rw [h]; exact k
theorem we_call {m : Fn} {fs : List Ex} (h : WA fs env s (fun ds s' => WO (m ds s') Q X) X) : WE (eCall m fs) env s Q X := wo_bnd h
theorem we_tup {fs : List Ex} (h : WA fs env s (fun ds s' => Q (.tup ds) s') X) : WE (eTup fs) env s Q X := wo_bnd h
theorem we_lst {nw : List Dt → Sto → Out Dt} {fs : List Ex} (h : WA fs env s (fun ds s' => WO (nw ds s') Q X) X) : WE (eLst nw fs) env s Q X := wo_bnd h
theorem we_meth {c i : Nat} {fs' : List Dt} {m : Fn} {fs : List Ex} (h : fe env s = .ok (.obj i) s1) (hi : s1[i]? = some (.ins c fs')) (k : WA fs env s1 (fun ds s' => WO (m (.obj i :: ds) s') Q X) X) : WE (eMeth c m fe fs) env s Q X := by
  unfold WE
  rw [ev_meth]
  refine wo_bnd ?_
  rw [h]
  show WO (match insD s1 c (.obj i) with | some _ => _ | none => _) Q X
  rw [insD_obj hi]
  exact wo_bnd k
/-- what is known behind it -/
theorem we_mid {f : Ex} (P : Dt → Sto → Prop) (h : WE f env s P noX) (k : ∀ d s, P d s → Q d s) : WE f env s Q X := wo_mono h k fun _ _ h => h.elim
def KN (P : En → Sto → Prop) : Ks := ⟨P, fun _ _ => False, fun _ _ => False, fun _ _ => False, fun _ _ _ => False⟩
theorem ws_mid (P : En → Sto → Prop) (h : WS f (KN P) env s) (k : ∀ e s, P e s → WS g K e s) : WS (sSeq f g) K env s := ws_seq (ws_mono h k (fun _ _ h => h.elim) (fun _ _ h => h.elim) (fun _ _ h => h.elim) fun _ _ _ h => h.elim)
theorem ws_mid0 (P : Sto → Prop) (h : WS f (KN fun e s => e = env ∧ P s) env s) (k : ∀ s, P s → WS g K env s) : WS (sSeq f g) K env s := ws_mid _ h (by rintro e s ⟨rfl, q⟩; exact k s q)
/-! statements -/
theorem ws_asg {tg : Tg} (h : WE fe env s (fun d s' => ∃ e, tg d env s' = some e ∧ K.nx e s') (fun c s' => K.ex c env s')) : WS (sAsg fe tg) K env s := by
  unfold WS WE at *
  rw [ev_asg, sBnd_def]
  cases e : fe env s with
  | ok d s' =>
    rw [e] at h
    obtain ⟨e1, h1, h2⟩ := h
    simp only [h1]
    exact h2
  | exc c s' => rw [e] at h; exact h
  | bad => rw [e] at h; exact h
theorem ws_set {i : Nat} (h : WE fe env s (fun d s' => K.nx (env.set i (some d)) s') (fun c s' => K.ex c env s')) : WS (sAsg fe (gN i)) K env s := ws_asg (wo_mono h (fun _ _ k => ⟨_, rfl, k⟩) fun _ _ k => k)
theorem ws_ret (h : WE fe env s K.rt (fun c s' => K.ex c env s')) : WS (sRet fe) K env s := by
  unfold WS WE at *
  rw [ev_ret, sBnd_def]
  cases e : fe env s with
  | ok d s' => rw [e] at h; exact h
  | exc c s' => rw [e] at h; exact h
  | bad => rw [e] at h; exact h
theorem ws_expr (h : WE fe env s (fun _ s' => K.nx env s') (fun c s' => K.ex c env s')) : WS (sExpr fe) K env s := by
  unfold WS WE at *
  rw [ev_expr, sBnd_def]
  cases e : fe env s with
  | ok d s' => rw [e] at h; exact h
  | exc c s' => rw [e] at h; exact h
  | bad => rw [e] at h; exact h
theorem ws_if (h : WT ft env s (fun c s' => if c = true then WS f K env s' else WS g K env s') (fun c s' => K.ex c env s')) : WS (sIf ft f g) K env s := by
  unfold WS WT at *
  rw [ev_if, sBnd_def]
  cases e : ft env s with
  | ok d s' => rw [e] at h; cases d <;> exact h
  | exc c s' => rw [e] at h; exact h
  | bad => rw [e] at h; exact h
theorem ws_ifT (h : ft env s = .ok true s1) (k : WS f K env s1) : WS (sIf ft f g) K env s := ws_if (wt_ok h k)
theorem ws_ifF (h : ft env s = .ok false s1) (k : WS g K env s1) : WS (sIf ft f g) K env s := ws_if (wt_ok h k)
theorem ws_next (h : K.nx env s) : WS sNext K env s := h
end
/-! ### loops -/
def setS : En → List Nat → List (Option Dt) → En
  | env, i :: is, x :: xs => setS (env.set i x) is xs
  | env, _, _ => env
theorem setS_cons {env : En} {i : Nat} {is : List Nat} {x : Option Dt} {xs : List (Option Dt)} : setS env (i :: is) (x :: xs) = setS (env.set i x) is xs := rfl
theorem setS_nil {env : En} {xs : List (Option Dt)} : setS env [] xs = env := by cases xs <;> rfl
theorem len0 {α : Type} {l : List α} (h : l.length = 0) : l = [] := List.length_eq_zero_iff.mp h
theorem len1 {α : Type} {l : List α} (h : l.length = 1) : ∃ a, l = [a] := List.length_eq_one_iff.mp h
theorem len2 {α : Type} {l : List α} (h : l.length = 2) : ∃ a b, l = [a, b] := by
  match l, h with
  | [a, b], _ => exact ⟨a, b, rfl⟩
theorem len3 {α : Type} {l : List α} (h : l.length = 3) : ∃ a b c, l = [a, b, c] := by
  match l, h with
  | [a, b, c], _ => exact ⟨a, b, c, rfl⟩
theorem len4 {α : Type} {l : List α} (h : l.length = 4) : ∃ a b c d, l = [a, b, c, d] := by
  match l, h with
  | [a, b, c, d], _ => exact ⟨a, b, c, d, rfl⟩
theorem len5 {α : Type} {l : List α} (h : l.length = 5) : ∃ a b c d e, l = [a, b, c, d, e] := by
  match l, h with
  | [a, b, c, d, e], _ => exact ⟨a, b, c, d, e, rfl⟩
theorem len6 {α : Type} {l : List α} (h : l.length = 6) : ∃ a b c d e f, l = [a, b, c, d, e, f] := by
  match l, h with
  | [a, b, c, d, e, f], _ => exact ⟨a, b, c, d, e, f, rfl⟩
section
variable {α : Type} {tg : Tg} {body : Sx} {ok : Sto → Prop} {K : Ks} {env0 : En} {s s0 : Sto}
theorem ws_forGo {f : α → Dt} (J : List α → En → Sto → Prop) (all : List α) : ∀ (l pre : List α) (env : En) (s : Sto), all = pre ++ l → J pre env s →
    (∀ pre a post env s, all = pre ++ a :: post → J pre env s → ok s ∧ ∃ env1, tg (f a) env s = some env1 ∧ WS body ⟨J (pre ++ [a]), K.rt, K.nx, J (pre ++ [a]), K.ex⟩ env1 s) → (∀ env s, J all env s → ok s ∧ K.nx env s) →
    KR K (forGo tg body ok (l.map f) env s)
  | [], pre, env, s, ha, hj, hb, hd => by
    rw [List.append_nil] at ha
    subst ha
    obtain ⟨h1, h2⟩ := hd env s hj
    simp only [List.map_nil, forGo, if_pos h1]
    exact h2
  | a :: l, pre, env, s, ha, hj, hb, hd => by
    obtain ⟨h1, env1, h2, h3⟩ := hb pre a l env s ha hj
    simp only [List.map_cons, forGo, if_pos h1, h2]
    unfold WS at h3
    have ih := fun e s' h => ws_forGo J all l (pre ++ [a]) e s' (by rw [ha, List.append_assoc]; rfl) h hb hd
    cases e : body env1 s with
    | fl fl s' =>
      rw [e] at h3
      cases fl
      · exact ih _ _ h3
      · exact h3
      · exact h3
      · exact ih _ _ h3
    | exc c e' s' => rw [e] at h3; exact h3
    | bad => rw [e] at h3; exact h3
theorem ws_for {fi : Is} {f : α → Dt} (is : List Nat) (J : List α → List (Option Dt) → Sto → Prop) {l : List α}
    (hi : fi env0 s = .ok (l.map f, ok) s0) (he : setS env0 is (is.map fun i => (env0[i]?).getD none) = env0) (h0 : J [] (is.map fun i => (env0[i]?).getD none) s0)
    (hb : ∀ pre a post xs s, l = pre ++ a :: post → xs.length = is.length → J pre xs s → ok s ∧ ∃ env1, tg (f a) (setS env0 is xs) s = some env1 ∧ WS body ⟨fun e s' => ∃ ys, ys.length = is.length ∧ e = setS env0 is ys ∧ J (pre ++ [a]) ys s', K.rt, K.nx, fun e s' => ∃ ys, ys.length = is.length ∧ e = setS env0 is ys ∧ J (pre ++ [a]) ys s', K.ex⟩ env1 s)
    (hd : ∀ xs s, xs.length = is.length → J l xs s → ok s ∧ K.nx (setS env0 is xs) s) : WS (sFor fi tg body) K env0 s := by
  unfold WS
  rw [ev_for, sBnd_def, hi]
  refine ws_forGo (fun pre env s => ∃ ys, ys.length = is.length ∧ env = setS env0 is ys ∧ J pre ys s) l l [] env0 s0 rfl ⟨_, by rw [List.length_map], he.symm, h0⟩ ?_ ?_
  · rintro pre a post env s ha ⟨xs, hx, e, hj⟩
    subst e
    exact hb pre a post xs s ha hx hj
  · rintro env s ⟨xs, hx, e, hj⟩
    subst e
    exact hd xs s hx hj
/-- .. over the numbers below n -/
theorem ws_range {fa : Ex} {n : Nat} (is : List Nat) (J : Nat → List (Option Dt) → Sto → Prop)
    (hi : fa env0 s = .ok (.int (n : Int)) s0) (hn : n ≤ 16777216) (he : setS env0 is (is.map fun i => (env0[i]?).getD none) = env0) (h0 : J 0 (is.map fun i => (env0[i]?).getD none) s0)
    (hb : ∀ k xs s, k < n → xs.length = is.length → J k xs s → ∃ env1, tg (.int (k : Int)) (setS env0 is xs) s = some env1 ∧ WS body ⟨fun e s' => ∃ ys, ys.length = is.length ∧ e = setS env0 is ys ∧ J (k + 1) ys s', K.rt, K.nx, fun e s' => ∃ ys, ys.length = is.length ∧ e = setS env0 is ys ∧ J (k + 1) ys s', K.ex⟩ env1 s)
    (hd : ∀ xs s, xs.length = is.length → J n xs s → K.nx (setS env0 is xs) s) : WS (sFor (iRange fa) tg body) K env0 s := by
  have hi2 : (iRange fa) env0 s = .ok ((List.range n).map (fun (k : Nat) => Dt.int (k : Int)), fun _ => True) s0 := by
    rw [ev_iRange, bnd_def, hi]
    have hr : ((n : Int) ≤ 16777216 ∧ -(2 ^ 62) ≤ (n : Int)) := by omega
    simp only [hr, and_self, if_true, Int.toNat_natCast]
  refine ws_for (f := fun (k : Nat) => Dt.int (k : Int)) is (fun pre xs s => pre = List.range pre.length ∧ J pre.length xs s) hi2 he ⟨rfl, h0⟩ ?_ ?_
  · rintro pre a post xs s ha hx ⟨hp, hj⟩
    have hlen := congrArg List.length ha
    rw [List.length_range, List.length_append, List.length_cons] at hlen
    have ea : a = pre.length := by
      have z : (List.range n)[pre.length]? = some a := by rw [ha]; simp
      rw [List.getElem?_range (by omega)] at z
      exact (Option.some.inj z).symm
    subst ea
    obtain ⟨env1, h1, h2⟩ := hb pre.length xs s (by omega) hx hj
    have key : ∀ e s', (∃ ys : List (Option Dt), ys.length = is.length ∧ e = setS env0 is ys ∧ J (pre.length + 1) ys s') → ∃ ys : List (Option Dt), ys.length = is.length ∧ e = setS env0 is ys ∧ (pre ++ [pre.length] = List.range (pre ++ [pre.length]).length ∧ J (pre ++ [pre.length]).length ys s') := by
      rintro e s' ⟨ys, k1, k2, k3⟩
      refine ⟨ys, k1, k2, ?_, by rw [List.length_append]; exact k3⟩
      rw [List.length_append, List.length_singleton, List.range_succ, ← hp]
    exact ⟨trivial, env1, h1, ws_mono h2 key (fun _ _ k => k) (fun _ _ k => k) key fun _ _ _ k => k⟩
  · rintro xs s hx ⟨hp, hj⟩
    rw [List.length_range] at hj
    exact ⟨trivial, hd xs s hx hj⟩
theorem ws_while {t : Tx} {fuel : Nat} (is : List Nat) (J : Nat → List (Option Dt) → Sto → Prop) (n : Nat) (hf : n < fuel) (he : setS env0 is (is.map fun i => (env0[i]?).getD none) = env0) (h0 : J n (is.map fun i => (env0[i]?).getD none) s)
    (hb : ∀ n xs s, xs.length = is.length → J n xs s → WT t (setS env0 is xs) s (fun c s1 => if c = true then WS body ⟨fun e s' => ∃ m ys, m < n ∧ ys.length = is.length ∧ e = setS env0 is ys ∧ J m ys s', K.rt, K.nx, fun e s' => ∃ m ys, m < n ∧ ys.length = is.length ∧ e = setS env0 is ys ∧ J m ys s', K.ex⟩ (setS env0 is xs) s1 else K.nx (setS env0 is xs) s1) (fun c s' => K.ex c (setS env0 is xs) s')) : WS (whGo t body fuel) K env0 s := by
  have go : ∀ (fuel n : Nat) (xs : List (Option Dt)) (s : Sto), n < fuel → xs.length = is.length → J n xs s → WS (whGo t body fuel) K (setS env0 is xs) s := by
    intro fuel
    induction fuel with
    | zero => intro n xs s h; omega
    | succ fuel ih =>
      intro n xs s hn hx hj
      have h := hb n xs s hx hj
      unfold WS
      rw [whGo, sBnd_def]
      unfold WT at h
      cases e : t (setS env0 is xs) s with
      | ok c s1 =>
        rw [e] at h
        cases c with
        | false =>
          have h : K.nx (setS env0 is xs) s1 := h
          exact h
        | true =>
          have h : WS body _ (setS env0 is xs) s1 := h
          unfold WS at h
          show KR K (match body (setS env0 is xs) s1 with
            | .fl (.nx e) s' => whGo t body fuel e s'
            | .fl (.ct e) s' => whGo t body fuel e s'
            | .fl (.bk e) s' => .fl (.nx e) s'
            | .fl (.rt d) s' => .fl (.rt d) s'
            | .exc c e s' => .exc c e s'
            | .bad => .bad)
          cases e2 : body (setS env0 is xs) s1 with
          | fl fl s' =>
            rw [e2] at h
            cases fl
            · obtain ⟨m, ys, k1, k2, k3, k4⟩ := h
              subst k3
              exact ih m ys s' (by omega) k2 k4
            · exact h
            · exact h
            · obtain ⟨m, ys, k1, k2, k3, k4⟩ := h
              subst k3
              exact ih m ys s' (by omega) k2 k4
          | exc c e' s' => rw [e2] at h; exact h
          | bad => rw [e2] at h; exact h
      | exc c s' => rw [e] at h; exact h
      | bad => rw [e] at h; exact h
  have := go fuel n _ s hf (by rw [List.length_map]) h0
  rw [he] at this
  exact this
end
/-! ### comprehensions -/
section
variable {α : Type} {tg : Tg} {ft : Tx} {fe : Ex} {ok : Sto → Prop} {env : En} {s s0 : Sto} {fi : Is} {vs : List Nat} {nw : List Dt → Sto → Out Dt} {Q : Dt → Sto → Prop} {X : Nat → Sto → Prop}
theorem we_lcF {f g : α → Dt} {p : α → Bool} {l : List α} (hi : fi env s = .ok (l.map f, ok) s0) (hok : ok s0) (h : ∀ a ∈ l, ∃ env1, tg (f a) (wipeD env vs) s0 = some env1 ∧ ft env1 s0 = .ok (p a) s0 ∧ (p a = true → fe env1 s0 = .ok (g a) s0)) (k : WO (nw ((l.filter p).map g) s0) Q X) : WE (eLc nw vs fi tg ft fe) env s Q X := by
  unfold WE
  rw [ev_lc, bnd_def, hi]
  show WO (bndN (lcGo tg ft fe ok (l.map f) (wipeD env vs)) nw s0) Q X
  rw [bndN_ok (lc_filter hok h)]
  exact k
theorem we_lcM {f g : α → Dt} {l : List α} (hi : fi env s = .ok (l.map f, ok) s0) (hok : ok s0) (h : ∀ a ∈ l, ∃ env1, tg (f a) (wipeD env vs) s0 = some env1 ∧ ft env1 s0 = .ok true s0 ∧ fe env1 s0 = .ok (g a) s0) (k : WO (nw (l.map g) s0) Q X) : WE (eLc nw vs fi tg ft fe) env s Q X := by
  unfold WE
  rw [ev_lc, bnd_def, hi]
  show WO (bndN (lcGo tg ft fe ok (l.map f) (wipeD env vs)) nw s0) Q X
  rw [bndN_ok (lc_map hok h)]
  exact k
/-- .. where the store changes -/
theorem lc_wp {f : α → Dt} {β : Type} {g : β → Dt} (J : List α → List β → Sto → Prop) (all : List α) (hok : ∀ pre bs s, J pre bs s → ok s) : ∀ (l pre : List α) (bs : List β) (s : Sto), all = pre ++ l → J pre bs s →
    (∀ pre a post bs s, all = pre ++ a :: post → J pre bs s → ∃ env1, tg (f a) env s = some env1 ∧ WE fe env1 s (fun d s' => ∃ b, d = g b ∧ J (pre ++ [a]) (bs ++ [b]) s') noX) →
    ∃ cs s', lcGo tg Pd.tYes fe ok (l.map f) env s = .ok (cs.map g) s' ∧ J all (bs ++ cs) s'
  | [], pre, bs, s, ha, hj, hb => by
    rw [List.append_nil] at ha
    subst ha
    exact ⟨[], s, by simp only [List.map_nil, lcGo, if_pos (hok _ _ _ hj)], by rw [List.append_nil]; exact hj⟩
  | a :: l, pre, bs, s, ha, hj, hb => by
    obtain ⟨env1, h1, h2⟩ := hb pre a l bs s ha hj
    obtain ⟨d, s1, h3, b, h4, h5⟩ := wo_iff h2
    subst h4
    obtain ⟨cs, s2, h6, h7⟩ := lc_wp (f := f) (g := g) J all hok l (pre ++ [a]) (bs ++ [b]) s1 (by rw [ha, List.append_assoc]; rfl) h5 hb
    refine ⟨b :: cs, s2, ?_, by rw [List.append_assoc] at h7; exact h7⟩
    simp only [List.map_cons, lcGo, if_pos (hok _ _ _ hj), h1, bndN, ev_yes, if_true, h3, h6]
theorem we_lcW {f : α → Dt} {β : Type} {g : β → Dt} (J : List α → List β → Sto → Prop) {l : List α} (hi : fi env s = .ok (l.map f, ok) s0) (hok : ∀ pre bs s, J pre bs s → ok s) (h0 : J [] [] s0) (h : ∀ pre a post bs s, l = pre ++ a :: post → J pre bs s → ∃ env1, tg (f a) (wipeD env vs) s = some env1 ∧ WE fe env1 s (fun d s' => ∃ b, d = g b ∧ J (pre ++ [a]) (bs ++ [b]) s') noX) (k : ∀ bs s', J l bs s' → WO (nw (bs.map g) s') Q X) : WE (eLc nw vs fi tg Pd.tYes fe) env s Q X := by
  unfold WE
  rw [ev_lc, bnd_def, hi]
  show WO (bndN (lcGo tg Pd.tYes fe ok (l.map f) (wipeD env vs)) nw s0) Q X
  obtain ⟨cs, s', h1, h2⟩ := lc_wp J l hok l [] [] s0 rfl h0 h
  rw [bndN_ok h1]
  exact k _ _ h2
end
end Pd
namespace Tx
open PySem L2 Pd
def top (i : Nat) : Stmt := PySem.Challenge.pw_tidinghall_k11_whole_any_turn.main.body.getD i (.Pass ⟨0, 0, 0, 0⟩)
def J : Cn
  | 0 => (Str.ofString "Node", [Str.ofString "below", Str.ofString "hearers"])
  | 1 => (Str.ofString "Book", [Str.ofString "top", Str.ofString "rows"])
  | 2 => (Str.ofString "TidingError", [])
  | 3 => (Str.ofString "BadName", [])
  | _ => (Str.ofString "", [])
abbrev s_is_level : Stmt := top 7
theorem sc_is_level : FnScope ["level", "sign"] ["level"] (defScope s_is_level) := ⟨rfl, rfl, rfl, by decide +kernel, rfl, by decide +kernel, by decide +kernel⟩
abbrev s_look_hearer : Stmt := top 10
theorem sc_look_hearer : FnScope ["hearer", "sign"] ["hearer"] (defScope s_look_hearer) := ⟨rfl, rfl, rfl, by decide +kernel, rfl, by decide +kernel, by decide +kernel⟩
abbrev s_look_grade : Stmt := top 11
theorem sc_look_grade : FnScope ["grade"] ["grade"] (defScope s_look_grade) := ⟨rfl, rfl, rfl, by decide +kernel, rfl, by decide +kernel, by decide +kernel⟩
abbrev s_Node_init : Stmt := inClass (top 13) 0
theorem sc_Node_init : FnScope ["self"] ["self"] (defScope s_Node_init) := ⟨rfl, rfl, rfl, by decide +kernel, rfl, by decide +kernel, by decide +kernel⟩
abbrev s_Book_wishes : Stmt := inClass (top 14) 4
theorem sc_Book_wishes : FnScope ["self", "hearer", "other", "wish"] ["self", "hearer"] (defScope s_Book_wishes) := ⟨rfl, rfl, rfl, by decide +kernel, rfl, by decide +kernel, by decide +kernel⟩
abbrev s_Book_size : Stmt := inClass (top 14) 6
theorem sc_Book_size : FnScope ["self"] ["self"] (defScope s_Book_size) := ⟨rfl, rfl, rfl, by decide +kernel, rfl, by decide +kernel, by decide +kernel⟩
abbrev s_Book_take : Stmt := inClass (top 14) 8
theorem sc_Book_take : FnScope ["self", "node", "found", "hearer"] ["self", "node", "found"] (defScope s_Book_take) := ⟨rfl, rfl, rfl, by decide +kernel, rfl, by decide +kernel, by decide +kernel⟩
abbrev s_law_cell : Stmt := top 16
theorem sc_law_cell : FnScope ["script", "k"] ["script", "k"] (defScope s_law_cell) := ⟨rfl, rfl, rfl, by decide +kernel, rfl, by decide +kernel, by decide +kernel⟩
abbrev s_law_is_level : Stmt := top 22
theorem sc_law_is_level : FnScope ["level", "codes", "sign", "one"] ["level"] (defScope s_law_is_level) := ⟨rfl, rfl, rfl, by decide +kernel, rfl, by decide +kernel, by decide +kernel⟩
abbrev s_look_name : Stmt := top 8
theorem sc_look_name : FnScope ["name", "levels", "level"] ["name"] (defScope s_look_name) := ⟨rfl, rfl, rfl, by decide +kernel, rfl, by decide +kernel, by decide +kernel⟩
abbrev s_look_wish : Stmt := top 9
theorem sc_look_wish : FnScope ["wish", "levels", "plain", "level"] ["wish"] (defScope s_look_wish) := ⟨rfl, rfl, rfl, by decide +kernel, rfl, by decide +kernel, by decide +kernel⟩
abbrev s_law_mix : Stmt := top 17
theorem sc_law_mix : FnScope ["script", "k", "number"] ["script", "k"] (defScope s_law_mix) := ⟨rfl, rfl, rfl, by decide +kernel, rfl, by decide +kernel, by decide +kernel⟩
abbrev s_law_is_wish : Stmt := top 23
theorem sc_law_is_wish : FnScope ["wish", "levels", "level"] ["wish"] (defScope s_law_is_wish) := ⟨rfl, rfl, rfl, by decide +kernel, rfl, by decide +kernel, by decide +kernel⟩
abbrev s_Book_init : Stmt := inClass (top 14) 0
theorem sc_Book_init : FnScope ["self"] ["self"] (defScope s_Book_init) := ⟨rfl, rfl, rfl, by decide +kernel, rfl, by decide +kernel, by decide +kernel⟩
abbrev s_Book_node : Stmt := inClass (top 14) 1
theorem sc_Book_node : FnScope ["self", "wish", "found", "level"] ["self", "wish"] (defScope s_Book_node) := ⟨rfl, rfl, rfl, by decide +kernel, rfl, by decide +kernel, by decide +kernel⟩
abbrev s_law_draw : Stmt := top 18
theorem sc_law_draw : FnScope ["script", "town", "many"] ["script", "town", "many"] (defScope s_law_draw) := ⟨rfl, rfl, rfl, by decide +kernel, rfl, by decide +kernel, by decide +kernel⟩
abbrev s_Book_put : Stmt := inClass (top 14) 2
theorem sc_Book_put : FnScope ["self", "hearer", "wish", "grade", "found"] ["self", "hearer", "wish", "grade"] (defScope s_Book_put) := ⟨rfl, rfl, rfl, by decide +kernel, rfl, by decide +kernel, by decide +kernel⟩
abbrev s_Book_drop : Stmt := inClass (top 14) 3
theorem sc_Book_drop : FnScope ["self", "hearer", "wish"] ["self", "hearer", "wish"] (defScope s_Book_drop) := ⟨rfl, rfl, rfl, by decide +kernel, rfl, by decide +kernel, by decide +kernel⟩
abbrev s_law_pick : Stmt := top 19
theorem sc_law_pick : FnScope ["script", "town", "some"] ["script", "town", "some"] (defScope s_law_pick) := ⟨rfl, rfl, rfl, by decide +kernel, rfl, by decide +kernel, by decide +kernel⟩
abbrev s_Book_leave : Stmt := inClass (top 14) 5
theorem sc_Book_leave : FnScope ["self", "hearer", "some", "wish", "grade"] ["self", "hearer"] (defScope s_Book_leave) := ⟨rfl, rfl, rfl, by decide +kernel, rfl, by decide +kernel, by decide +kernel⟩
abbrev s_law_signs : Stmt := top 20
theorem sc_law_signs : FnScope ["script", "town", "many", "also", "signs", "found", "k", "sign"] ["script", "town", "many", "also"] (defScope s_law_signs) := ⟨rfl, rfl, rfl, by decide +kernel, rfl, by decide +kernel, by decide +kernel⟩
abbrev s_law_level : Stmt := top 21
theorem sc_law_level : FnScope ["script", "town", "way"] ["script", "town"] (defScope s_law_level) := ⟨rfl, rfl, rfl, by decide +kernel, rfl, by decide +kernel, by decide +kernel⟩
abbrev s_law_wish : Stmt := top 24
theorem sc_law_wish : FnScope ["script", "town", "levels", "found", "wish", "level"] ["script", "town", "levels"] (defScope s_law_wish) := ⟨rfl, rfl, rfl, by decide +kernel, rfl, by decide +kernel, by decide +kernel⟩
abbrev s_Book_collect : Stmt := inClass (top 14) 7
theorem sc_Book_collect : FnScope ["self", "node", "levels", "is_first", "found"] ["self", "node", "levels", "is_first", "found"] (defScope s_Book_collect) := ⟨rfl, rfl, rfl, by decide +kernel, rfl, by decide +kernel, by decide +kernel⟩
abbrev s_Book_hears : Stmt := inClass (top 14) 9
theorem sc_Book_hears : FnScope ["self", "name", "found", "hearer"] ["self", "name"] (defScope s_Book_hears) := ⟨rfl, rfl, rfl, by decide +kernel, rfl, by decide +kernel, by decide +kernel⟩
abbrev s_law : Stmt := top 25
theorem sc_law : FnScope ["script", "town", "levels", "name", "table", "k", "hearer", "one", "other", "keys", "key", "at", "wish", "some"] ["script"] (defScope s_law) := ⟨rfl, rfl, rfl, by decide +kernel, rfl, by decide +kernel, by decide +kernel⟩
structure Ad where
  (f_is_level f_look_hearer f_look_grade f_Node_init f_Book_wishes f_Book_size f_Book_take f_law_cell f_law_is_level f_look_name f_look_wish f_law_mix f_law_is_wish f_Book_init f_Book_node f_law_draw f_Book_put f_Book_drop f_law_pick f_Book_leave f_law_signs f_law_level f_law_wish f_Book_collect f_Book_hears f_law C_Node C_Book C_TidingError C_BadName : Addr)
  (t_MOST_LEVELS t_MOST_SIGNS t_SMALL : Tok)
structure Txt (K : PySem.W.Frag) (mg : Str → Option Value) (A : Ad) : Prop where
  d_is_level : ∃ fd, Fun K "is_level" "is_level" s_is_level A.f_is_level fd ∧ Binds K fd ["level"] []
  g_is_level : mg "is_level" = some (.ref A.f_is_level)
  k_is_level : PySem.W.keepIn K (.ref A.f_is_level) = true
  d_look_hearer : ∃ fd, Fun K "look_hearer" "look_hearer" s_look_hearer A.f_look_hearer fd ∧ Binds K fd ["hearer"] []
  g_look_hearer : mg "look_hearer" = some (.ref A.f_look_hearer)
  k_look_hearer : PySem.W.keepIn K (.ref A.f_look_hearer) = true
  d_look_grade : ∃ fd, Fun K "look_grade" "look_grade" s_look_grade A.f_look_grade fd ∧ Binds K fd ["grade"] []
  g_look_grade : mg "look_grade" = some (.ref A.f_look_grade)
  k_look_grade : PySem.W.keepIn K (.ref A.f_look_grade) = true
  d_Node_init : ∃ fd, Fun K "__init__" "Node.__init__" s_Node_init A.f_Node_init fd ∧ Binds K fd ["self"] []
  d_Book_wishes : ∃ fd, Fun K "wishes" "Book.wishes" s_Book_wishes A.f_Book_wishes fd ∧ Binds K fd ["self", "hearer"] []
  d_Book_size : ∃ fd, Fun K "size" "Book.size" s_Book_size A.f_Book_size fd ∧ Binds K fd ["self"] []
  d_Book_take : ∃ fd, Fun K "take" "Book.take" s_Book_take A.f_Book_take fd ∧ Binds K fd ["self", "node", "found"] []
  d_law_cell : ∃ fd, Fun K "_law_cell" "_law_cell" s_law_cell A.f_law_cell fd ∧ Binds K fd ["script", "k"] []
  g_law_cell : mg "_law_cell" = some (.ref A.f_law_cell)
  k_law_cell : PySem.W.keepIn K (.ref A.f_law_cell) = true
  d_law_is_level : ∃ fd, Fun K "_law_is_level" "_law_is_level" s_law_is_level A.f_law_is_level fd ∧ Binds K fd ["level"] []
  g_law_is_level : mg "_law_is_level" = some (.ref A.f_law_is_level)
  k_law_is_level : PySem.W.keepIn K (.ref A.f_law_is_level) = true
  d_look_name : ∃ fd, Fun K "look_name" "look_name" s_look_name A.f_look_name fd ∧ Binds K fd ["name"] []
  g_look_name : mg "look_name" = some (.ref A.f_look_name)
  k_look_name : PySem.W.keepIn K (.ref A.f_look_name) = true
  d_look_wish : ∃ fd, Fun K "look_wish" "look_wish" s_look_wish A.f_look_wish fd ∧ Binds K fd ["wish"] []
  g_look_wish : mg "look_wish" = some (.ref A.f_look_wish)
  k_look_wish : PySem.W.keepIn K (.ref A.f_look_wish) = true
  d_law_mix : ∃ fd, Fun K "_law_mix" "_law_mix" s_law_mix A.f_law_mix fd ∧ Binds K fd ["script", "k"] []
  g_law_mix : mg "_law_mix" = some (.ref A.f_law_mix)
  k_law_mix : PySem.W.keepIn K (.ref A.f_law_mix) = true
  d_law_is_wish : ∃ fd, Fun K "_law_is_wish" "_law_is_wish" s_law_is_wish A.f_law_is_wish fd ∧ Binds K fd ["wish"] []
  g_law_is_wish : mg "_law_is_wish" = some (.ref A.f_law_is_wish)
  k_law_is_wish : PySem.W.keepIn K (.ref A.f_law_is_wish) = true
  d_Book_init : ∃ fd, Fun K "__init__" "Book.__init__" s_Book_init A.f_Book_init fd ∧ Binds K fd ["self"] []
  d_Book_node : ∃ fd, Fun K "node" "Book.node" s_Book_node A.f_Book_node fd ∧ Binds K fd ["self", "wish"] []
  d_law_draw : ∃ fd, Fun K "_law_draw" "_law_draw" s_law_draw A.f_law_draw fd ∧ Binds K fd ["script", "town", "many"] []
  g_law_draw : mg "_law_draw" = some (.ref A.f_law_draw)
  k_law_draw : PySem.W.keepIn K (.ref A.f_law_draw) = true
  d_Book_put : ∃ fd, Fun K "put" "Book.put" s_Book_put A.f_Book_put fd ∧ Binds K fd ["self", "hearer", "wish", "grade"] []
  d_Book_drop : ∃ fd, Fun K "drop" "Book.drop" s_Book_drop A.f_Book_drop fd ∧ Binds K fd ["self", "hearer", "wish"] []
  d_law_pick : ∃ fd, Fun K "_law_pick" "_law_pick" s_law_pick A.f_law_pick fd ∧ Binds K fd ["script", "town", "some"] []
  g_law_pick : mg "_law_pick" = some (.ref A.f_law_pick)
  k_law_pick : PySem.W.keepIn K (.ref A.f_law_pick) = true
  d_Book_leave : ∃ fd, Fun K "leave" "Book.leave" s_Book_leave A.f_Book_leave fd ∧ Binds K fd ["self", "hearer"] []
  d_law_signs : ∃ fd, Fun K "_law_signs" "_law_signs" s_law_signs A.f_law_signs fd ∧ Binds K fd ["script", "town", "many", "also"] []
  g_law_signs : mg "_law_signs" = some (.ref A.f_law_signs)
  k_law_signs : PySem.W.keepIn K (.ref A.f_law_signs) = true
  d_law_level : ∃ fd, Fun K "_law_level" "_law_level" s_law_level A.f_law_level fd ∧ Binds K fd ["script", "town"] []
  g_law_level : mg "_law_level" = some (.ref A.f_law_level)
  k_law_level : PySem.W.keepIn K (.ref A.f_law_level) = true
  d_law_wish : ∃ fd, Fun K "_law_wish" "_law_wish" s_law_wish A.f_law_wish fd ∧ Binds K fd ["script", "town", "levels"] []
  g_law_wish : mg "_law_wish" = some (.ref A.f_law_wish)
  k_law_wish : PySem.W.keepIn K (.ref A.f_law_wish) = true
  d_Book_collect : ∃ fd, Fun K "collect" "Book.collect" s_Book_collect A.f_Book_collect fd ∧ Binds K fd ["self", "node", "levels", "is_first", "found"] []
  d_Book_hears : ∃ fd, Fun K "hears" "Book.hears" s_Book_hears A.f_Book_hears fd ∧ Binds K fd ["self", "name"] []
  d_law : ∃ fd, Fun K "law" "law" s_law A.f_law fd ∧ Binds K fd ["script"] []
  g_law : mg "law" = some (.ref A.f_law)
  k_law : PySem.W.keepIn K (.ref A.f_law) = true
  a_Node_below : AtF J K mg 0 0 "below"
  a_Node_hearers : AtF J K mg 0 1 "hearers"
  mk_Node : MkF J K mg 0 A.C_Node A.f_Node_init
  a_Book_top : AtF J K mg 1 0 "top"
  a_Book_rows : AtF J K mg 1 1 "rows"
  mk_Book : MkF J K mg 1 A.C_Book A.f_Book_init
  me_Book_wishes : MeF J K mg 1 "wishes" A.C_Book A.f_Book_wishes
  me_Book_size : MeF J K mg 1 "size" A.C_Book A.f_Book_size
  me_Book_take : MeF J K mg 1 "take" A.C_Book A.f_Book_take
  me_Book_node : MeF J K mg 1 "node" A.C_Book A.f_Book_node
  me_Book_put : MeF J K mg 1 "put" A.C_Book A.f_Book_put
  me_Book_drop : MeF J K mg 1 "drop" A.C_Book A.f_Book_drop
  me_Book_leave : MeF J K mg 1 "leave" A.C_Book A.f_Book_leave
  me_Book_collect : MeF J K mg 1 "collect" A.C_Book A.f_Book_collect
  me_Book_hears : MeF J K mg 1 "hears" A.C_Book A.f_Book_hears
  x_TidingError : PySem.W.excIn K A.C_TidingError [.type "ValueError", .type "Exception", .type "BaseException", .type "object"] "ValueError.__new__" = true
  gc_TidingError : mg "TidingError" = some (.ref A.C_TidingError)
  kc_TidingError : PySem.W.keepIn K (.ref A.C_TidingError) = true
  b_TidingError : PySem.W.subIn K (.ref A.C_TidingError) (.type "BaseException") = some true
  t_TidingError : PySem.W.typeIn K (.ref A.C_TidingError) = some (.type "type")
  x_BadName : PySem.W.excIn K A.C_BadName [.type "ValueError", .type "Exception", .type "BaseException", .type "object"] "ValueError.__new__" = true
  gc_BadName : mg "BadName" = some (.ref A.C_BadName)
  kc_BadName : PySem.W.keepIn K (.ref A.C_BadName) = true
  b_BadName : PySem.W.subIn K (.ref A.C_BadName) (.type "BaseException") = some true
  t_BadName : PySem.W.typeIn K (.ref A.C_BadName) = some (.type "type")
  n_all : mg "all" = none
  n_len : mg "len" = none
  n_max : mg "max" = none
  n_ord : mg "ord" = none
  n_range : mg "range" = none
  n_set : mg "set" = none
  n_sorted : mg "sorted" = none
  c_MOST_LEVELS : mg "MOST_LEVELS" = some (.int 8 A.t_MOST_LEVELS)
  c_MOST_SIGNS : mg "MOST_SIGNS" = some (.int 12 A.t_MOST_SIGNS)
  c_SMALL : mg "SMALL" = some (.str (Str.ofString "abcdefghijklmnopqrstuvwxyz0123456789") A.t_SMALL)
/-! ### what each def means -/
noncomputable def b_is_level : Sx := sSeq (sIf (tBl (eOp dGt (eUn dLen (eVar 0)) (eC (.int 12)))) (sRet (eC (.bl false))) (sNext)) (sRet (eUn dAll (eLc nwF [1] (iSeq (eVar 0)) (gN 1) (Pd.tYes) (eAnd (eChain dLe dLt (eC (.int 32)) (eUn dOrd (eVar 1)) (eC (.int 127))) (eAnd (eOp dNe (eUn dOrd (eVar 1)) (eC (.int 37))) (eOp dNotIn (eVar 1) (eC (.str (Str.ofString "+#/")))))))))
noncomputable def m_is_level : Fn := fnOf 2 b_is_level
noncomputable def b_look_hearer : Sx := sIf (tOr (tNot (tBl (eChain dLe dLe (eC (.int 1)) (eUn dLen (eVar 0)) (eC (.int 12))))) (tNot (tTru (eUn dAll (eLc nwF [1] (iSeq (eVar 0)) (gN 1) (Pd.tYes) (eOp dIn (eVar 1) (eC (.str (Str.ofString "abcdefghijklmnopqrstuvwxyz0123456789"))))))))) (sRaise 3) (sNext)
noncomputable def m_look_hearer : Fn := fnOf 2 b_look_hearer
noncomputable def b_look_grade : Sx := sIf (tNot (tBl (eChain dLe dLe (eC (.int 0)) (eVar 0) (eC (.int 2))))) (sRaise 3) (sNext)
noncomputable def m_look_grade : Fn := fnOf 1 b_look_grade
noncomputable def b_Node_init : Sx := sSeq (sSetF 0 0 (eVar 0) (eDnewK)) (sSetF 0 1 (eVar 0) (eDnewK))
noncomputable def m_Node_init : Fn := fnOf 1 b_Node_init
noncomputable def b_Book_wishes : Sx := sRet (eUn (dSorted nwF) (eLock (eFld 1 1 (eVar 0)) (eLc nwF [2, 3] (iKeysL (eFld 1 1 (eVar 0))) (gT [2, 3]) (tBl (eOp dEq (eVar 2) (eVar 1))) (eTup [eVar 3, eOp dDget (eFld 1 1 (eVar 0)) (eTup [eVar 2, eVar 3])]))))
noncomputable def m_Book_wishes : Fn := fnOf 4 b_Book_wishes
noncomputable def b_Book_size : Sx := sRet (eUn dLen (eFld 1 1 (eVar 0)))
noncomputable def m_Book_size : Fn := fnOf 1 b_Book_size
noncomputable def l_Book_take_1 : Sx := sDput (eVar 2) (eVar 3) (eOp dMax (eDget2 (eVar 2) (eVar 3) (eC (.int 0))) (eOp dDget (eFld 0 1 (eVar 1)) (eVar 3)))
noncomputable def u_Book_take_1 : Sx := sIf (tBl (eUn dNotN (eVar 1))) (sLock (eFld 0 1 (eVar 1)) (sFor (iKeysL (eFld 0 1 (eVar 1))) (gN 3) (l_Book_take_1))) (sNext)
noncomputable def b_Book_take : Sx := u_Book_take_1
noncomputable def m_Book_take : Fn := fnOf 4 b_Book_take
noncomputable def b_law_cell : Sx := sSeq (sIf (tTru (eVar 0)) (sRet (eOp dIx (eVar 0) (eOp dMod (eVar 1) (eUn dLen (eVar 0))))) (sNext)) (sRet (eC (.int 0)))
noncomputable def m_law_cell : Fn := fnOf 2 b_law_cell
noncomputable def b_law_is_level : Sx := sSeq (sAsg (eLc nwF [2] (iSeq (eVar 0)) (gN 2) (Pd.tYes) (eUn dOrd (eVar 2))) (gN 1)) (sRet (eAnd (eOp dLt (eUn dLen (eVar 0)) (eC (.int 13))) (eUn dAll (eLc nwF [3] (iSeq (eVar 1)) (gN 3) (Pd.tYes) (eAnd (eChain dLe dLt (eC (.int 32)) (eVar 3) (eC (.int 127))) (eOp dNotIn (eVar 3) (eTup [eC (.int 35), eC (.int 37), eC (.int 43)])))))))
noncomputable def m_law_is_level : Fn := fnOf 4 b_law_is_level
noncomputable def b_look_name : Sx := sSeq (sAsg (eBm1 isStr (dSplit nwF) (eVar 0) (eC (.str (Str.ofString "/")))) (gN 1)) (sIf (tOr (tBl (eOp dEq (eVar 0) (eC (.str (Str.ofString ""))))) (tOr (tBl (eOp dGt (eUn dLen (eVar 1)) (eC (.int 8)))) (tNot (tTru (eUn dAll (eLc nwF [2] (iSeq (eVar 1)) (gN 2) (Pd.tYes) (eCall m_is_level [eVar 2]))))))) (sRaise 3) (sNext))
noncomputable def m_look_name : Fn := fnOf 3 b_look_name
noncomputable def b_look_wish : Sx := sSeq (sAsg (eBm1 isStr (dSplit nwF) (eVar 0) (eC (.str (Str.ofString "/")))) (gN 1)) (sSeq (sAsg (eIf (tBl (eOp dEq (eOp dIx (eVar 1) (eUn dNeg (eC (.int 1)))) (eC (.str (Str.ofString "#"))))) (eSl nwF (eVar 1) none (some (eUn dNeg (eC (.int 1))))) (eVar 1)) (gN 2)) (sIf (tOr (tBl (eOp dEq (eVar 0) (eC (.str (Str.ofString ""))))) (tOr (tBl (eOp dGt (eUn dLen (eVar 1)) (eC (.int 8)))) (tNot (tTru (eUn dAll (eLc nwF [3] (iSeq (eVar 2)) (gN 3) (Pd.tYes) (eOr (eOp dEq (eVar 3) (eC (.str (Str.ofString "+")))) (eCall m_is_level [eVar 3])))))))) (sRaise 3) (sNext)))
noncomputable def m_look_wish : Fn := fnOf 4 b_look_wish
noncomputable def b_law_mix : Sx := sSeq (sAsg (eOp dMod (eOp (dAdd nwF) (eCall m_law_cell [eVar 0, eVar 1]) (eOp dMul (eC (.int 104729)) (eOp (dAdd nwF) (eVar 1) (eC (.int 1))))) (eC (.int 4294967291))) (gN 2)) (sSeq (sAsg (eOp dMod (eOp dPow (eVar 2) (eC (.int 5))) (eC (.int 4294967279))) (gN 2)) (sRet (eOp dMod (eOp (dAdd nwF) (eOp dMul (eOp dFdv (eVar 2) (eC (.int 64))) (eC (.int 69621))) (eVar 2)) (eC (.int 4294967231)))))
noncomputable def m_law_mix : Fn := fnOf 3 b_law_mix
noncomputable def b_law_is_wish : Sx := sSeq (sAsg (eBm1 isStr (dSplit nwM) (eVar 0) (eC (.str (Str.ofString "/")))) (gN 1)) (sSeq (sIf (tBl (eOp dEq (eOp dIx (eVar 1) (eUn dNeg (eC (.int 1)))) (eC (.str (Str.ofString "#"))))) (sSetI (eVar 1) (eUn dNeg (eC (.int 1))) (eC (.str (Str.ofString "a")))) (sNext)) (sRet (eAnd (eOp dNe (eVar 0) (eC (.str (Str.ofString "")))) (eAnd (eOp dLt (eUn dLen (eVar 1)) (eC (.int 9))) (eUn dAll (eLc nwF [2] (iSeq (eVar 1)) (gN 2) (Pd.tYes) (eOr (eOp dEq (eVar 2) (eC (.str (Str.ofString "+")))) (eCall m_law_is_level [eVar 2]))))))))
noncomputable def m_law_is_wish : Fn := fnOf 3 b_law_is_wish
noncomputable def b_Book_init : Sx := sSeq (sSetF 1 0 (eVar 0) (eMake 0 m_Node_init [])) (sSetF 1 1 (eVar 0) (eDnewT))
noncomputable def m_Book_init : Fn := fnOf 1 b_Book_init
noncomputable def w_Book_node_1 : Sx := sIf (tBl (eOp dDnotIn (eVar 3) (eFld 0 0 (eVar 2)))) (sDput (eFld 0 0 (eVar 2)) (eVar 3) (eMake 0 m_Node_init [])) (sNext)
noncomputable def w_Book_node_2 : Sx := sAsg (eOp dDget (eFld 0 0 (eVar 2)) (eVar 3)) (gN 2)
noncomputable def l_Book_node_1 : Sx := sSeq w_Book_node_1 (w_Book_node_2)
noncomputable def u_Book_node_1 : Sx := sAsg (eFld 1 0 (eVar 0)) (gN 2)
noncomputable def u_Book_node_2 : Sx := sFor (iSeq (eBm1 isStr (dSplit nwF) (eVar 1) (eC (.str (Str.ofString "/"))))) (gN 3) (l_Book_node_1)
noncomputable def u_Book_node_3 : Sx := sRet (eVar 2)
noncomputable def b_Book_node : Sx := sSeq u_Book_node_1 (sSeq u_Book_node_2 (u_Book_node_3))
noncomputable def m_Book_node : Fn := fnOf 4 b_Book_node
noncomputable def b_law_draw : Sx := sSeq (sExpr (eBm1 isLst dApp (eVar 1) (eC (.int 0)))) (sRet (eOp dMod (eOp dFdv (eCall m_law_mix [eVar 0, eUn dLen (eVar 1)]) (eC (.int 8))) (eVar 2)))
noncomputable def m_law_draw : Fn := fnOf 3 b_law_draw
noncomputable def u_Book_put_1 : Sx := sExpr (eCall m_look_hearer [eVar 1])
noncomputable def u_Book_put_2 : Sx := sExpr (eCall m_look_wish [eVar 2])
noncomputable def u_Book_put_3 : Sx := sExpr (eCall m_look_grade [eVar 3])
noncomputable def u_Book_put_4 : Sx := sAsg (eOp dDnotIn (eTup [eVar 1, eVar 2]) (eFld 1 1 (eVar 0))) (gN 4)
noncomputable def u_Book_put_5 : Sx := sDput (eFld 1 1 (eVar 0)) (eTup [eVar 1, eVar 2]) (eVar 3)
noncomputable def u_Book_put_6 : Sx := sDput (eFld 0 1 (eMeth 1 m_Book_node (eVar 0) [eVar 2])) (eVar 1) (eVar 3)
noncomputable def u_Book_put_7 : Sx := sRet (eVar 4)
noncomputable def b_Book_put : Sx := sSeq u_Book_put_1 (sSeq u_Book_put_2 (sSeq u_Book_put_3 (sSeq u_Book_put_4 (sSeq u_Book_put_5 (sSeq u_Book_put_6 (u_Book_put_7))))))
noncomputable def m_Book_put : Fn := fnOf 5 b_Book_put
noncomputable def u_Book_drop_1 : Sx := sIf (tBl (eOp dDnotIn (eTup [eVar 1, eVar 2]) (eFld 1 1 (eVar 0)))) (sRet (eC (.bl false))) (sNext)
noncomputable def u_Book_drop_2 : Sx := sExpr (eDpop1 (eFld 1 1 (eVar 0)) (eTup [eVar 1, eVar 2]))
noncomputable def u_Book_drop_3 : Sx := sExpr (eDpop1 (eFld 0 1 (eMeth 1 m_Book_node (eVar 0) [eVar 2])) (eVar 1))
noncomputable def u_Book_drop_4 : Sx := sRet (eC (.bl true))
noncomputable def b_Book_drop : Sx := sSeq u_Book_drop_1 (sSeq u_Book_drop_2 (sSeq u_Book_drop_3 (u_Book_drop_4)))
noncomputable def m_Book_drop : Fn := fnOf 3 b_Book_drop
noncomputable def b_law_pick : Sx := sRet (eOp dIx (eVar 2) (eCall m_law_draw [eVar 0, eVar 1, eUn dLen (eVar 2)]))
noncomputable def m_law_pick : Fn := fnOf 3 b_law_pick
noncomputable def l_Book_leave_1 : Sx := sExpr (eMeth 1 m_Book_drop (eVar 0) [eVar 1, eVar 3])
noncomputable def b_Book_leave : Sx := sSeq (sAsg (eMeth 1 m_Book_wishes (eVar 0) [eVar 1]) (gN 2)) (sSeq (sFor (iSeq (eVar 2)) (gT [3, 4]) (l_Book_leave_1)) (sRet (eUn dLen (eVar 2))))
noncomputable def m_Book_leave : Fn := fnOf 5 b_Book_leave
noncomputable def l_law_signs_1 : Sx := sSeq (sAsg (eCall m_law_pick [eVar 0, eVar 1, eVar 4]) (gN 7)) (sAsg (eOp (dAdd nwF) (eVar 5) (eIf (tAnd (tBl (eOp dIn (eVar 7) (eC (.str (Str.ofString "+#/"))))) (tNot (tTru (eVar 3)))) (eC (.str (Str.ofString "x"))) (eVar 7))) (gN 5))
noncomputable def b_law_signs : Sx := sSeq (sAsg (eC (.str (Str.ofString " !#$&'()*+,-./0123456789:;<=>?@ABCXYZ[]^_abcdefghijklmnopqrstuvwxyz{|}~"))) (gN 4)) (sSeq (sAsg (eC (.str (Str.ofString ""))) (gN 5)) (sSeq (sFor (iRange (eVar 2)) (gN 6) (l_law_signs_1)) (sRet (eVar 5))))
noncomputable def m_law_signs : Fn := fnOf 8 b_law_signs
noncomputable def b_law_level : Sx := sSeq (sAsg (eCall m_law_draw [eVar 0, eVar 1, eC (.int 8)]) (gN 2)) (sSeq (sIf (tBl (eOp dLt (eVar 2) (eC (.int 5)))) (sRet (eCall m_law_pick [eVar 0, eVar 1, eLst nwF [eC (.str (Str.ofString "a")), eC (.str (Str.ofString "b")), eC (.str (Str.ofString "")), eC (.str (Str.ofString "$s")), eC (.str (Str.ofString "ab"))]])) (sNext)) (sRet (eCall m_law_signs [eVar 0, eVar 1, eCall m_law_pick [eVar 0, eVar 1, eLst nwF [eC (.int 1), eC (.int 2), eC (.int 5), eC (.int 12)]], eC (.bl false)])))
noncomputable def m_law_level : Fn := fnOf 3 b_law_level
noncomputable def u_law_wish_1 : Sx := sAsg (eLc nwM [5] (iSeq (eVar 2)) (gN 5) (Pd.tYes) (eCall m_law_pick [eVar 0, eVar 1, eLst nwF [eVar 5, eVar 5, eC (.str (Str.ofString "+")), eCall m_law_level [eVar 0, eVar 1]]])) (gN 3)
noncomputable def u_law_wish_2 : Sx := sIf (tBl (eOp dEq (eCall m_law_draw [eVar 0, eVar 1, eC (.int 3)]) (eC (.int 0)))) (sSetI (eVar 3) (eUn dNeg (eC (.int 1))) (eC (.str (Str.ofString "#")))) (sNext)
noncomputable def u_law_wish_3 : Sx := sAsg (eBm1 isStr dJoin (eC (.str (Str.ofString "/"))) (eVar 3)) (gN 4)
noncomputable def u_law_wish_4 : Sx := sRet (eIf (tTru (eCall m_law_is_wish [eVar 4])) (eVar 4) (eOp (dAdd nwF) (eC (.str (Str.ofString "+/"))) (eVar 4)))
noncomputable def b_law_wish : Sx := sSeq u_law_wish_1 (sSeq u_law_wish_2 (sSeq u_law_wish_3 (u_law_wish_4)))
noncomputable def m_law_wish : Fn := fnOf 6 b_law_wish
noncomputable def u_Book_collect_1 (rec : Fn) : Sx := sIf (tNot (tAnd (tTru (eVar 3)) (tTru (eBm1 isStr dStarts (eOp dIx (eVar 2) (eC (.int 0))) (eC (.str (Str.ofString "$"))))))) (sSeq (sExpr (eMeth 1 m_Book_take (eVar 0) [eDget2 (eFld 0 0 (eVar 1)) (eC (.str (Str.ofString "#"))) (eC .non), eVar 4])) (sIf (tAnd (tTru (eVar 2)) (tBl (eOp dDin (eC (.str (Str.ofString "+"))) (eFld 0 0 (eVar 1))))) (sExpr (eMeth 1 rec (eVar 0) [eOp dDget (eFld 0 0 (eVar 1)) (eC (.str (Str.ofString "+"))), eSl nwF (eVar 2) (some (eC (.int 1))) none, eC (.bl false), eVar 4])) (sNext))) (sNext)
noncomputable def u_Book_collect_2 (rec : Fn) : Sx := sIf (tNot (tTru (eVar 2))) (sExpr (eMeth 1 m_Book_take (eVar 0) [eVar 1, eVar 4])) (sIf (tBl (eOp dDin (eOp dIx (eVar 2) (eC (.int 0))) (eFld 0 0 (eVar 1)))) (sExpr (eMeth 1 rec (eVar 0) [eOp dDget (eFld 0 0 (eVar 1)) (eOp dIx (eVar 2) (eC (.int 0))), eSl nwF (eVar 2) (some (eC (.int 1))) none, eC (.bl false), eVar 4])) (sNext))
noncomputable def b_Book_collect (rec : Fn) : Sx := sSeq (u_Book_collect_1 rec) ((u_Book_collect_2 rec))
noncomputable def r_Book_collect : Nat → Fn
  | 0 => fnOf 5 sBad
  | n + 1 => fnOf 5 (b_Book_collect (r_Book_collect n))
noncomputable def m_Book_collect : Fn := r_Book_collect 12
noncomputable def u_Book_hears_1 : Sx := sExpr (eCall m_look_name [eVar 1])
noncomputable def u_Book_hears_2 : Sx := sAsg (eDnewK) (gN 2)
noncomputable def u_Book_hears_3 : Sx := sExpr (eMeth 1 m_Book_collect (eVar 0) [eFld 1 0 (eVar 0), eBm1 isStr (dSplit nwF) (eVar 1) (eC (.str (Str.ofString "/"))), eC (.bl true), eVar 2])
noncomputable def u_Book_hears_4 : Sx := sRet (eLc nwM [3] (iSeq (eUn (dSortK nwF) (eVar 2))) (gN 3) (Pd.tYes) (eTup [eVar 3, eOp dDget (eVar 2) (eVar 3)]))
noncomputable def b_Book_hears : Sx := sSeq u_Book_hears_1 (sSeq u_Book_hears_2 (sSeq u_Book_hears_3 (u_Book_hears_4)))
noncomputable def m_Book_hears : Fn := fnOf 4 b_Book_hears
noncomputable def w_law_1 : Sx := sAsg (eCall m_law_pick [eVar 0, eVar 1, eLst nwF [eC (.str (Str.ofString "a")), eC (.str (Str.ofString "b")), eC (.str (Str.ofString "c"))]]) (gN 6)
noncomputable def w_law_2 : Sx := sDput (eVar 4) (eTup [eVar 6, eCall m_law_wish [eVar 0, eVar 1, eVar 2]]) (eCall m_law_draw [eVar 0, eVar 1, eC (.int 3)])
noncomputable def l_law_1 : Sx := sSeq w_law_1 (w_law_2)
noncomputable def l_law_2 : Sx := sExpr (eMeth 1 m_Book_put (eVar 7) [eOp dIx (eVar 10) (eC (.int 0)), eOp dIx (eVar 10) (eC (.int 1)), eOp dDget (eVar 4) (eVar 10)])
noncomputable def w_law_3 : Sx := sAsg (eCall m_law_wish [eVar 0, eVar 1, eVar 2]) (gN 12)
noncomputable def w_law_4 : Sx := sIf (tAnd (tBl (eOp dDnotIn (eTup [eOp dIx (eVar 10) (eC (.int 0)), eVar 12]) (eVar 4))) (tTru (eMeth 1 m_Book_put (eVar 8) [eOp dIx (eVar 10) (eC (.int 0)), eVar 12, eC (.int 2)]))) (sIf (tOr (tBl (eOp dIsNotB (eMeth 1 m_Book_drop (eVar 8) [eOp dIx (eVar 10) (eC (.int 0)), eVar 12]) (eC (.bl true)))) (tBl (eOp dIsNotB (eMeth 1 m_Book_drop (eVar 8) [eOp dIx (eVar 10) (eC (.int 0)), eVar 12]) (eC (.bl false))))) (sRet (eC (.bl false))) (sNext)) (sNext)
noncomputable def w_law_5 : Sx := sExpr (eMeth 1 m_Book_put (eVar 8) [eOp dIx (eVar 10) (eC (.int 0)), eOp dIx (eVar 10) (eC (.int 1)), eOp dSub (eC (.int 2)) (eOp dDget (eVar 4) (eVar 10))])
noncomputable def w_law_6 : Sx := sIf (tBl (eOp dIsNotB (eMeth 1 m_Book_put (eVar 8) [eOp dIx (eVar 10) (eC (.int 0)), eOp dIx (eVar 10) (eC (.int 1)), eOp dDget (eVar 4) (eVar 10)]) (eC (.bl false)))) (sRet (eC (.bl false))) (sNext)
noncomputable def l_law_3 : Sx := sSeq w_law_3 (sSeq w_law_4 (sSeq w_law_5 (w_law_6)))
noncomputable def l_law_4 : Sx := sIf (tBl (eOp dNe (eMeth 1 m_Book_hears (eVar 7) [eVar 13]) (eMeth 1 m_Book_hears (eVar 8) [eVar 13]))) (sRet (eC (.bl false))) (sNext)
noncomputable def u_law_1 : Sx := sAsg (eLst nwM []) (gN 1)
noncomputable def u_law_2 : Sx := sAsg (eLc nwF [5] (iRange (eOp (dAdd nwF) (eC (.int 1)) (eCall m_law_draw [eVar 0, eVar 1, eC (.int 4)]))) (gN 5) (Pd.tYes) (eCall m_law_level [eVar 0, eVar 1])) (gN 2)
noncomputable def u_law_3 : Sx := sAsg (eIf (tBl (eOp dNe (eVar 2) (eLst nwF [eC (.str (Str.ofString ""))]))) (eBm1 isStr dJoin (eC (.str (Str.ofString "/"))) (eVar 2)) (eC (.str (Str.ofString "a")))) (gN 3)
noncomputable def u_law_4 : Sx := sAsg (eDnewT) (gN 4)
noncomputable def u_law_5 : Sx := sFor (iRange (eCall m_law_draw [eVar 0, eVar 1, eC (.int 15)])) (gN 5) (l_law_1)
noncomputable def u_law_6 : Sx := sAsg (eMake 1 m_Book_init []) (gN 7)
noncomputable def u_law_7 : Sx := sAsg (eMake 1 m_Book_init []) (gN 8)
noncomputable def u_law_8 : Sx := sAsg (eUn (dSortK nwF) (eVar 4)) (gN 9)
noncomputable def u_law_9 : Sx := sFor (iSeq (eVar 9)) (gN 10) (l_law_2)
noncomputable def u_law_10 : Sx := sExpr (eMeth 1 m_Book_put (eVar 8) [eC (.str (Str.ofString "d")), eC (.str (Str.ofString "a/+")), eC (.int 2)])
noncomputable def u_law_11 : Sx := sExpr (eMeth 1 m_Book_put (eVar 8) [eC (.str (Str.ofString "d")), eVar 3, eC (.int 1)])
noncomputable def u_law_12 : Sx := sAsg (eCall m_law_draw [eVar 0, eVar 1, eOp (dAdd nwF) (eUn dLen (eVar 9)) (eC (.int 1))]) (gN 11)
noncomputable def u_law_13 : Sx := sFor (iSeq (eOp (dAdd nwF) (eUn (dRev nwF) (eSl nwF (eVar 9) (some (eVar 11)) none)) (eSl nwF (eVar 9) none (some (eVar 11))))) (gN 10) (l_law_3)
noncomputable def u_law_14 : Sx := sIf (tOr (tBl (eOp dNe (eMeth 1 m_Book_leave (eVar 8) [eC (.str (Str.ofString "d"))]) (eUn dLenTx (eLst nwF [eC (.str (Str.ofString "a/+")), eVar 3])))) (tBl (eOp dNe (eMeth 1 m_Book_leave (eVar 8) [eC (.str (Str.ofString "d"))]) (eC (.int 0))))) (sRet (eC (.bl false))) (sNext)
noncomputable def u_law_15 : Sx := sFor (iSeq (eLst nwF [eVar 3, eC (.str (Str.ofString "zz")), eIf (tBl (eOp dLt (eUn dLen (eVar 2)) (eC (.int 8)))) (eOp (dAdd nwF) (eVar 3) (eC (.str (Str.ofString "/zz")))) (eVar 3)])) (gN 13) (l_law_4)
noncomputable def u_law_16 : Sx := sIf (tNot (tTru (eUn dAll (eLc nwF [6] (iSeq (eLst nwF [eC (.str (Str.ofString "a")), eC (.str (Str.ofString "b")), eC (.str (Str.ofString "c")), eC (.str (Str.ofString "d"))])) (gN 6) (Pd.tYes) (eOp dEq (eMeth 1 m_Book_wishes (eVar 7) [eVar 6]) (eMeth 1 m_Book_wishes (eVar 8) [eVar 6])))))) (sRet (eC (.bl false))) (sNext)
noncomputable def u_law_17 : Sx := sRet (eAnd (eOp dEq (eMeth 1 m_Book_size (eVar 7) []) (eUn dLen (eVar 4))) (eOp dEq (eMeth 1 m_Book_size (eVar 8) []) (eUn dLen (eVar 4))))
noncomputable def b_law : Sx := sSeq u_law_1 (sSeq u_law_2 (sSeq u_law_3 (sSeq u_law_4 (sSeq u_law_5 (sSeq u_law_6 (sSeq u_law_7 (sSeq u_law_8 (sSeq u_law_9 (sSeq u_law_10 (sSeq u_law_11 (sSeq u_law_12 (sSeq u_law_13 (sSeq u_law_14 (sSeq u_law_15 (sSeq u_law_16 (u_law_17))))))))))))))))
noncomputable def m_law : Fn := fnOf 14 b_law
theorem m_Node_init_non : ∀ ds s d s', m_Node_init ds s = .ok d s' → d = .non := noRt_fn (noRt_seq noRt_setF (noRt_setF))
theorem m_Book_init_non : ∀ ds s d s', m_Book_init ds s = .ok d s' → d = .non := noRt_fn (noRt_seq noRt_setF (noRt_setF))
end Tx
namespace Tx
open PySem L2 Pd
section
variable {P : Program} {w : World} {K : PySem.W.Frag} {mg : Str → Option Value} {base : Heap} {A : Ad}
theorem d_is_level (T : Txt K mg A) : Df true P w K mg base J 1 1 A.f_is_level m_is_level := by
  obtain ⟨fd, F, hb⟩ := T.d_is_level
  exact df_of F sc_is_level hb fun cdv A outer s H E hr =>
    (ss_cons (ss_if (ts_cmp (c_gt) (es_b1 (b_len) rfl T.n_len (by decide +kernel) (es_var (pv 0))) (es_gint rfl T.c_MOST_SIGNS) (nomark _)) (ss_one (ss_ret (es_bl))) (ss_nil))
      (ss_one (ss_ret (es_b1 (b_all rfl) rfl T.n_all (by decide +kernel) (es_lc (own := [("sign", 1)]) isF rfl sc_is_level.nd (is_seq (es_var (pv 0))) (blkOk_by (own := [("sign", 1)]) (N := ["level", "sign"]) (sc := defScope s_is_level) (by decide +kernel)) (by decide) (fun _ _ _ _ _ => gs_name (pg_name (i := 1) sc_is_level.nd rfl (by first | exact Or.inl rfl | exact Or.inr rfl))) (fun _ _ _ _ _ => tts_nil) (fun _ _ _ _ _ => es_and (es_leLt (es_int) (es_b1 (b_ord) rfl T.n_ord (by decide +kernel) (es_var (pv 1))) (es_int)) (es_and (es_cmp (c_ne hr.units) (es_b1 (b_ord) rfl T.n_ord (by decide +kernel) (es_var (pv 1))) (es_int) (nomark _)) (es_one (es_cmp (c_notIn hr.u65) (es_var (pv 1)) (es_str))))))))))
theorem d_look_hearer (T : Txt K mg A) : Df true P w K mg base J 1 1 A.f_look_hearer m_look_hearer := by
  obtain ⟨fd, F, hb⟩ := T.d_look_hearer
  exact df_of F sc_look_hearer hb fun cdv A outer s H E hr =>
    (ss_one (ss_if (ts_w (ws_or (ts_not (ts_leLe (es_int) (es_b1 (b_len) rfl T.n_len (by decide +kernel) (es_var (pv 0))) (es_gint rfl T.c_MOST_SIGNS))) (ws_or1 (ts_not (ts_tru (es_b1 (b_all rfl) rfl T.n_all (by decide +kernel) (es_lc (own := [("sign", 1)]) isF rfl sc_look_hearer.nd (is_seq (es_var (pv 0))) (blkOk_by (own := [("sign", 1)]) (N := ["hearer", "sign"]) (sc := defScope s_look_hearer) (by decide +kernel)) (by decide) (fun _ _ _ _ _ => gs_name (pg_name (i := 1) sc_look_hearer.nd rfl (by first | exact Or.inl rfl | exact Or.inr rfl))) (fun _ _ _ _ _ => tts_nil) (fun _ _ _ _ _ => es_cmp (c_in hr.u65) (es_var (pv 1)) (es_gstr rfl T.c_SMALL))))))))) (ss_one (ss_raise (c := 3) rfl rfl ((tks_of rfl rfl rfl rfl)) PySem.F.excBase_ValueError T.x_BadName T.gc_BadName T.kc_BadName (raises_own T.b_BadName T.t_BadName) rfl)) (ss_nil)))
theorem d_look_grade (T : Txt K mg A) : Df true P w K mg base J 1 1 A.f_look_grade m_look_grade := by
  obtain ⟨fd, F, hb⟩ := T.d_look_grade
  exact df_of F sc_look_grade hb fun cdv A outer s H E hr =>
    (ss_one (ss_if (ts_not (ts_leLe (es_int) (es_var (pv 0)) (es_int))) (ss_one (ss_raise (c := 3) rfl rfl ((tks_of rfl rfl rfl rfl)) PySem.F.excBase_ValueError T.x_BadName T.gc_BadName T.kc_BadName (raises_own T.b_BadName T.t_BadName) rfl)) (ss_nil)))
theorem d_Node_init (T : Txt K mg A) : Df true P w K mg base J 1 1 A.f_Node_init m_Node_init := by
  obtain ⟨fd, F, hb⟩ := T.d_Node_init
  exact df_of F sc_Node_init hb fun cdv A outer s H E hr =>
    (ss_cons (ss_setF T.a_Node_below (es_var (pv 0)) (es_dnewK))
      (ss_one (ss_setF T.a_Node_hearers (es_var (pv 0)) (es_dnewK))))
theorem d_Book_wishes (T : Txt K mg A) : Df true P w K mg base J 1 2 A.f_Book_wishes m_Book_wishes := by
  obtain ⟨fd, F, hb⟩ := T.d_Book_wishes
  exact df_of F sc_Book_wishes hb fun cdv A outer s H E hr =>
    (ss_one (ss_ret (es_b1 (b_sorted isF) rfl T.n_sorted (by decide +kernel) (es_lock (eFld 1 1 (eVar 0)) (es_lc (own := [("other", 2), ("wish", 3)]) isF rfl sc_Book_wishes.nd (is_keys (es_fld T.a_Book_rows (es_var (pv 0)))) (blkOk_by (own := [("other", 2), ("wish", 3)]) (N := ["self", "hearer", "other", "wish"]) (sc := defScope s_Book_wishes) (by decide +kernel)) (by decide) (fun _ _ _ _ _ => gs_tup rfl (gss_cons (pg_name (i := 2) sc_Book_wishes.nd rfl (by first | exact Or.inl rfl | exact Or.inr rfl)) (gss_cons (pg_name (i := 3) sc_Book_wishes.nd rfl (by first | exact Or.inl rfl | exact Or.inr rfl)) (gss_nil)))) (fun _ _ _ _ _ => tts_one (ts_cmp (c_eq hr.units) (es_var (pv 2)) (es_var (pv 1)) (nomark _))) (fun _ _ _ _ _ => es_tup (as_cons (es_var (pv 3)) (as_cons (es_dget hr.u1 (es_fld T.a_Book_rows (es_var (pv 0))) (es_tup (as_cons (es_var (pv 2)) (as_cons (es_var (pv 3)) (as_nil))))) (as_nil)))))))))
theorem d_Book_size (T : Txt K mg A) : Df true P w K mg base J 1 1 A.f_Book_size m_Book_size := by
  obtain ⟨fd, F, hb⟩ := T.d_Book_size
  exact df_of F sc_Book_size hb fun cdv A outer s H E hr =>
    (ss_one (ss_ret (es_b1 (b_len) rfl T.n_len (by decide +kernel) (es_fld T.a_Book_rows (es_var (pv 0))))))
theorem d_Book_take (T : Txt K mg A) : Df true P w K mg base J 1 3 A.f_Book_take m_Book_take := by
  obtain ⟨fd, F, hb⟩ := T.d_Book_take
  exact df_of F sc_Book_take hb fun cdv A outer s H E hr =>
    (ss_one (ss_if (ts_notN (es_var (pv 1))) (ss_one (ss_lock (eFld 0 1 (eVar 1)) (ss_for (passes_of rfl) rfl (is_keys (es_fld T.a_Node_hearers (es_var (pv 1)))) (gs_name (pg_name (i := 3) sc_Book_take.nd rfl (by first | exact Or.inl rfl | exact Or.inr rfl))) (ss_one (ss_dput hr.u1 (es_var (pv 2)) (es_var (pv 3)) (es_b2 (b_max rfl) rfl T.n_max (by decide +kernel) (es_dget2 hr.u1 (es_var (pv 2)) (es_var (pv 3)) (es_int)) (es_dget hr.u1 (es_fld T.a_Node_hearers (es_var (pv 1))) (es_var (pv 3))))))))) (ss_nil)))
theorem d_law_cell (T : Txt K mg A) : Df true P w K mg base J 1 2 A.f_law_cell m_law_cell := by
  obtain ⟨fd, F, hb⟩ := T.d_law_cell
  exact df_of F sc_law_cell hb fun cdv A outer s H E hr =>
    (ss_cons (ss_if (ts_tru (es_var (pv 0))) (ss_one (ss_ret (es_ix (es_var (pv 0)) (es_mod (es_var (pv 1)) (es_b1 (b_len) rfl T.n_len (by decide +kernel) (es_var (pv 0))))))) (ss_nil))
      (ss_one (ss_ret (es_int))))
theorem d_law_is_level (T : Txt K mg A) : Df true P w K mg base J 1 1 A.f_law_is_level m_law_is_level := by
  obtain ⟨fd, F, hb⟩ := T.d_law_is_level
  exact df_of F sc_law_is_level hb fun cdv A outer s H E hr =>
    (ss_cons (ss_setLc (i := 1) (own := [("sign", 2)]) isF rfl sc_law_is_level.nd rfl rfl (sw_true rfl rfl rfl (by decide +kernel)) (is_seq (es_var (pv 0))) (blkOk_by (own := [("sign", 2)]) (N := ["level", "codes", "sign", "one"]) (sc := defScope s_law_is_level) (by decide +kernel)) (by decide) (fun _ _ _ _ _ => gs_name (pg_name (i := 2) sc_law_is_level.nd rfl (by first | exact Or.inl rfl | exact Or.inr rfl))) (fun _ _ _ _ _ => tts_nil) (fun _ _ _ _ _ => es_b1 (b_ord) rfl T.n_ord (by decide +kernel) (es_var (pv 2))))
      (ss_one (ss_ret (es_and (es_cmp (c_lt) (es_b1 (b_len) rfl T.n_len (by decide +kernel) (es_var (pv 0))) (es_int) (nomark _)) (es_one (es_b1 (b_all rfl) rfl T.n_all (by decide +kernel) (es_lc (own := [("one", 3)]) isF rfl sc_law_is_level.nd (is_seq (es_var (pv 1))) (blkOk_by (own := [("one", 3)]) (N := ["level", "codes", "sign", "one"]) (sc := defScope s_law_is_level) (by decide +kernel)) (by decide) (fun _ _ _ _ _ => gs_name (pg_name (i := 3) sc_law_is_level.nd rfl (by first | exact Or.inl rfl | exact Or.inr rfl))) (fun _ _ _ _ _ => tts_nil) (fun _ _ _ _ _ => es_and (es_leLt (es_int) (es_var (pv 3)) (es_int)) (es_one (es_cmp (c_notIn hr.u65) (es_var (pv 3)) (es_tup (as_cons (es_int) (as_cons (es_int) (as_cons (es_int) (as_nil)))))))))))))))
theorem d_look_name (T : Txt K mg A) : Df true P w K mg base J 2 1 A.f_look_name m_look_name := by
  obtain ⟨fd, F, hb⟩ := T.d_look_name
  exact df_of F sc_look_name hb fun cdv A outer s H E hr =>
    (ss_cons (ss_asg (es_bm1 (m_split isF) (es_var (pv 0)) (es_str)) (gs_name (pg_name (i := 1) sc_look_name.nd rfl (by first | exact Or.inl rfl | exact Or.inr rfl))))
      (ss_one (ss_if (ts_w (ws_or (ts_cmp (c_eq hr.units) (es_var (pv 0)) (es_str) (nomark _)) (ws_or (ts_cmp (c_gt) (es_b1 (b_len) rfl T.n_len (by decide +kernel) (es_var (pv 1))) (es_gint rfl T.c_MOST_LEVELS) (nomark _)) (ws_or1 (ts_not (ts_tru (es_b1 (b_all rfl) rfl T.n_all (by decide +kernel) (es_lc (own := [("level", 2)]) isF rfl sc_look_name.nd (is_seq (es_var (pv 1))) (blkOk_by (own := [("level", 2)]) (N := ["name", "levels", "level"]) (sc := defScope s_look_name) (by decide +kernel)) (by decide) (fun _ _ _ _ _ => gs_name (pg_name (i := 2) sc_look_name.nd rfl (by first | exact Or.inl rfl | exact Or.inr rfl))) (fun _ _ _ _ _ => tts_nil) (fun _ _ _ _ _ => es_call tks0 (d_is_level T) (hr.mono (by omega)) rfl T.g_is_level T.k_is_level (as_cons (es_var (pv 2)) (as_nil))))))))))) (ss_one (ss_raise (c := 3) rfl rfl ((tks_of rfl rfl rfl rfl)) PySem.F.excBase_ValueError T.x_BadName T.gc_BadName T.kc_BadName (raises_own T.b_BadName T.t_BadName) rfl)) (ss_nil))))
theorem d_look_wish (T : Txt K mg A) : Df true P w K mg base J 2 1 A.f_look_wish m_look_wish := by
  obtain ⟨fd, F, hb⟩ := T.d_look_wish
  exact df_of F sc_look_wish hb fun cdv A outer s H E hr =>
    (ss_cons (ss_asg (es_bm1 (m_split isF) (es_var (pv 0)) (es_str)) (gs_name (pg_name (i := 1) sc_look_wish.nd rfl (by first | exact Or.inl rfl | exact Or.inr rfl))))
      (ss_cons (ss_asg (es_if (ts_cmp (c_eq hr.units) (es_ix (es_var (pv 1)) (es_neg (es_int))) (es_str) (nomark _)) (es_sl isF (es_var (pv 1)) (os_none) (os_some (es_neg (es_int)))) (es_var (pv 1))) (gs_name (pg_name (i := 2) sc_look_wish.nd rfl (by first | exact Or.inl rfl | exact Or.inr rfl))))
      (ss_one (ss_if (ts_w (ws_or (ts_cmp (c_eq hr.units) (es_var (pv 0)) (es_str) (nomark _)) (ws_or (ts_cmp (c_gt) (es_b1 (b_len) rfl T.n_len (by decide +kernel) (es_var (pv 1))) (es_gint rfl T.c_MOST_LEVELS) (nomark _)) (ws_or1 (ts_not (ts_tru (es_b1 (b_all rfl) rfl T.n_all (by decide +kernel) (es_lc (own := [("level", 3)]) isF rfl sc_look_wish.nd (is_seq (es_var (pv 2))) (blkOk_by (own := [("level", 3)]) (N := ["wish", "levels", "plain", "level"]) (sc := defScope s_look_wish) (by decide +kernel)) (by decide) (fun _ _ _ _ _ => gs_name (pg_name (i := 3) sc_look_wish.nd rfl (by first | exact Or.inl rfl | exact Or.inr rfl))) (fun _ _ _ _ _ => tts_nil) (fun _ _ _ _ _ => es_or (es_cmp (c_eq hr.units) (es_var (pv 3)) (es_str) (nomark _)) (es_one (es_call tks0 (d_is_level T) (hr.mono (by omega)) rfl T.g_is_level T.k_is_level (as_cons (es_var (pv 3)) (as_nil))))))))))))) (ss_one (ss_raise (c := 3) rfl rfl ((tks_of rfl rfl rfl rfl)) PySem.F.excBase_ValueError T.x_BadName T.gc_BadName T.kc_BadName (raises_own T.b_BadName T.t_BadName) rfl)) (ss_nil)))))
theorem d_law_mix (T : Txt K mg A) : Df true P w K mg base J 2 2 A.f_law_mix m_law_mix := by
  obtain ⟨fd, F, hb⟩ := T.d_law_mix
  exact df_of F sc_law_mix hb fun cdv A outer s H E hr =>
    (ss_cons (ss_asg (es_mod (es_add isF (es_call (tks_of rfl rfl rfl rfl) (d_law_cell T) (hr.mono (by omega)) rfl T.g_law_cell T.k_law_cell (as_cons (es_var (pv 0)) (as_cons (es_var (pv 1)) (as_nil)))) (es_mul (es_int) (es_add isF (es_var (pv 1)) (es_int)))) (es_int)) (gs_name (pg_name (i := 2) sc_law_mix.nd rfl (by first | exact Or.inl rfl | exact Or.inr rfl))))
      (ss_cons (ss_asg (es_mod (es_pow (es_var (pv 2)) (es_int)) (es_int)) (gs_name (pg_name (i := 2) sc_law_mix.nd rfl (by first | exact Or.inl rfl | exact Or.inr rfl))))
      (ss_one (ss_ret (es_mod (es_add isF (es_mul (es_fdv (es_var (pv 2)) (es_int)) (es_int)) (es_var (pv 2))) (es_int))))))
theorem d_law_is_wish (T : Txt K mg A) : Df true P w K mg base J 2 1 A.f_law_is_wish m_law_is_wish := by
  obtain ⟨fd, F, hb⟩ := T.d_law_is_wish
  exact df_of F sc_law_is_wish hb fun cdv A outer s H E hr =>
    (ss_cons (ss_asg (es_bm1 (m_split isM) (es_var (pv 0)) (es_str)) (gs_name (pg_name (i := 1) sc_law_is_wish.nd rfl (by first | exact Or.inl rfl | exact Or.inr rfl))))
      (ss_cons (ss_if (ts_cmp (c_eq hr.units) (es_ix (es_var (pv 1)) (es_neg (es_int))) (es_str) (nomark _)) (ss_one (ss_setI (es_var (pv 1)) (es_neg (es_int)) (es_str))) (ss_nil))
      (ss_one (ss_ret (es_and (es_cmp (c_ne hr.units) (es_var (pv 0)) (es_str) (nomark _)) (es_and (es_cmp (c_lt) (es_b1 (b_len) rfl T.n_len (by decide +kernel) (es_var (pv 1))) (es_int) (nomark _)) (es_one (es_b1 (b_all rfl) rfl T.n_all (by decide +kernel) (es_lc (own := [("level", 2)]) isF rfl sc_law_is_wish.nd (is_seq (es_var (pv 1))) (blkOk_by (own := [("level", 2)]) (N := ["wish", "levels", "level"]) (sc := defScope s_law_is_wish) (by decide +kernel)) (by decide) (fun _ _ _ _ _ => gs_name (pg_name (i := 2) sc_law_is_wish.nd rfl (by first | exact Or.inl rfl | exact Or.inr rfl))) (fun _ _ _ _ _ => tts_nil) (fun _ _ _ _ _ => es_or (es_cmp (c_eq hr.units) (es_var (pv 2)) (es_str) (nomark _)) (es_one (es_call tks0 (d_law_is_level T) (hr.mono (by omega)) rfl T.g_law_is_level T.k_law_is_level (as_cons (es_var (pv 2)) (as_nil))))))))))))))
theorem d_Book_init (T : Txt K mg A) : Df true P w K mg base J 3 1 A.f_Book_init m_Book_init := by
  obtain ⟨fd, F, hb⟩ := T.d_Book_init
  exact df_of F sc_Book_init hb fun cdv A outer s H E hr =>
    (ss_cons (ss_setF T.a_Book_top (es_var (pv 0)) (es_make0 (tks_of rfl rfl rfl rfl) T.mk_Node (d_Node_init T) (hr.mono (by omega)) (m_Node_init_non) rfl rfl))
      (ss_one (ss_setF T.a_Book_rows (es_var (pv 0)) (es_dnewT))))
theorem d_Book_node (T : Txt K mg A) : Df true P w K mg base J 3 2 A.f_Book_node m_Book_node := by
  obtain ⟨fd, F, hb⟩ := T.d_Book_node
  exact df_of F sc_Book_node hb fun cdv A outer s H E hr =>
    (ss_cons (ss_asg (es_fld T.a_Book_top (es_var (pv 0))) (gs_name (pg_name (i := 2) sc_Book_node.nd rfl (by first | exact Or.inl rfl | exact Or.inr rfl))))
      (ss_cons (ss_for (passes_of rfl) rfl (is_seq (es_bm1 (m_split isF) (es_var (pv 1)) (es_str))) (gs_name (pg_name (i := 3) sc_Book_node.nd rfl (by first | exact Or.inl rfl | exact Or.inr rfl))) (ss_cons (ss_if (ts_dnotIn hr.u1 (es_var (pv 3)) (es_fld T.a_Node_below (es_var (pv 2)))) (ss_one (ss_dput hr.u1 (es_fld T.a_Node_below (es_var (pv 2))) (es_var (pv 3)) (es_make0 (tks_of rfl rfl rfl rfl) T.mk_Node (d_Node_init T) (hr.mono (by omega)) (m_Node_init_non) rfl rfl))) (ss_nil))
      (ss_one (ss_asg (es_dget hr.u1 (es_fld T.a_Node_below (es_var (pv 2))) (es_var (pv 3))) (gs_name (pg_name (i := 2) sc_Book_node.nd rfl (by first | exact Or.inl rfl | exact Or.inr rfl)))))))
      (ss_one (ss_ret (es_var (pv 2))))))
theorem d_law_draw (T : Txt K mg A) : Df true P w K mg base J 3 3 A.f_law_draw m_law_draw := by
  obtain ⟨fd, F, hb⟩ := T.d_law_draw
  exact df_of F sc_law_draw hb fun cdv A outer s H E hr =>
    (ss_cons (ss_expr (es_bm1 m_append (es_var (pv 1)) (es_int)))
      (ss_one (ss_ret (es_mod (es_fdv (es_call (tks_of rfl rfl rfl rfl) (d_law_mix T) (hr.mono (by omega)) rfl T.g_law_mix T.k_law_mix (as_cons (es_var (pv 0)) (as_cons (es_b1 (b_len) rfl T.n_len (by decide +kernel) (es_var (pv 1))) (as_nil)))) (es_int)) (es_var (pv 2))))))
theorem d_Book_put (T : Txt K mg A) : Df true P w K mg base J 4 4 A.f_Book_put m_Book_put := by
  obtain ⟨fd, F, hb⟩ := T.d_Book_put
  exact df_of F sc_Book_put hb fun cdv A outer s H E hr =>
    (ss_cons (ss_expr (es_call (tks_of rfl rfl rfl rfl) (d_look_hearer T) (hr.mono (by omega)) rfl T.g_look_hearer T.k_look_hearer (as_cons (es_var (pv 1)) (as_nil))))
      (ss_cons (ss_expr (es_call (tks_of rfl rfl rfl rfl) (d_look_wish T) (hr.mono (by omega)) rfl T.g_look_wish T.k_look_wish (as_cons (es_var (pv 2)) (as_nil))))
      (ss_cons (ss_expr (es_call (tks_of rfl rfl rfl rfl) (d_look_grade T) (hr.mono (by omega)) rfl T.g_look_grade T.k_look_grade (as_cons (es_var (pv 3)) (as_nil))))
      (ss_cons (ss_asg (es_dnotIn hr.u1 (es_tup (as_cons (es_var (pv 1)) (as_cons (es_var (pv 2)) (as_nil)))) (es_fld T.a_Book_rows (es_var (pv 0)))) (gs_name (pg_name (i := 4) sc_Book_put.nd rfl (by first | exact Or.inl rfl | exact Or.inr rfl))))
      (ss_cons (ss_dput hr.u1 (es_fld T.a_Book_rows (es_var (pv 0))) (es_tup (as_cons (es_var (pv 1)) (as_cons (es_var (pv 2)) (as_nil)))) (es_var (pv 3)))
      (ss_cons (ss_dput hr.u1 (es_fld T.a_Node_hearers (es_meth (tks_of rfl rfl rfl rfl) T.me_Book_node (d_Book_node T) (hr.mono (by omega)) (es_var (pv 0)) (as_cons (es_var (pv 2)) (as_nil)))) (es_var (pv 1)) (es_var (pv 3)))
      (ss_one (ss_ret (es_var (pv 4))))))))))
theorem d_Book_drop (T : Txt K mg A) : Df true P w K mg base J 4 3 A.f_Book_drop m_Book_drop := by
  obtain ⟨fd, F, hb⟩ := T.d_Book_drop
  exact df_of F sc_Book_drop hb fun cdv A outer s H E hr =>
    (ss_cons (ss_if (ts_dnotIn hr.u1 (es_tup (as_cons (es_var (pv 1)) (as_cons (es_var (pv 2)) (as_nil)))) (es_fld T.a_Book_rows (es_var (pv 0)))) (ss_one (ss_ret (es_bl))) (ss_nil))
      (ss_cons (ss_expr (es_dpop1 hr.u1 (es_fld T.a_Book_rows (es_var (pv 0))) (es_tup (as_cons (es_var (pv 1)) (as_cons (es_var (pv 2)) (as_nil))))))
      (ss_cons (ss_expr (es_dpop1 hr.u1 (es_fld T.a_Node_hearers (es_meth (tks_of rfl rfl rfl rfl) T.me_Book_node (d_Book_node T) (hr.mono (by omega)) (es_var (pv 0)) (as_cons (es_var (pv 2)) (as_nil)))) (es_var (pv 1))))
      (ss_one (ss_ret (es_bl))))))
theorem d_law_pick (T : Txt K mg A) : Df true P w K mg base J 4 3 A.f_law_pick m_law_pick := by
  obtain ⟨fd, F, hb⟩ := T.d_law_pick
  exact df_of F sc_law_pick hb fun cdv A outer s H E hr =>
    (ss_one (ss_ret (es_ix (es_var (pv 2)) (es_call (tks_of rfl rfl rfl rfl) (d_law_draw T) (hr.mono (by omega)) rfl T.g_law_draw T.k_law_draw (as_cons (es_var (pv 0)) (as_cons (es_var (pv 1)) (as_cons (es_b1 (b_len) rfl T.n_len (by decide +kernel) (es_var (pv 2))) (as_nil))))))))
theorem d_Book_leave (T : Txt K mg A) : Df true P w K mg base J 5 2 A.f_Book_leave m_Book_leave := by
  obtain ⟨fd, F, hb⟩ := T.d_Book_leave
  exact df_of F sc_Book_leave hb fun cdv A outer s H E hr =>
    (ss_cons (ss_asg (es_meth (tks_of rfl rfl rfl rfl) T.me_Book_wishes (d_Book_wishes T) (hr.mono (by omega)) (es_var (pv 0)) (as_cons (es_var (pv 1)) (as_nil))) (gs_name (pg_name (i := 2) sc_Book_leave.nd rfl (by first | exact Or.inl rfl | exact Or.inr rfl))))
      (ss_cons (ss_for (passes_of rfl) rfl (is_seq (es_var (pv 2))) (gs_tup rfl (gss_cons (pg_name (i := 3) sc_Book_leave.nd rfl (by first | exact Or.inl rfl | exact Or.inr rfl)) (gss_cons (pg_name (i := 4) sc_Book_leave.nd rfl (by first | exact Or.inl rfl | exact Or.inr rfl)) (gss_nil)))) (ss_one (ss_expr (es_meth (tks_of rfl rfl rfl rfl) T.me_Book_drop (d_Book_drop T) (hr.mono (by omega)) (es_var (pv 0)) (as_cons (es_var (pv 1)) (as_cons (es_var (pv 3)) (as_nil)))))))
      (ss_one (ss_ret (es_b1 (b_len) rfl T.n_len (by decide +kernel) (es_var (pv 2)))))))
theorem d_law_signs (T : Txt K mg A) : Df true P w K mg base J 5 4 A.f_law_signs m_law_signs := by
  obtain ⟨fd, F, hb⟩ := T.d_law_signs
  exact df_of F sc_law_signs hb fun cdv A outer s H E hr =>
    (ss_cons (ss_asg (es_str) (gs_name (pg_name (i := 4) sc_law_signs.nd rfl (by first | exact Or.inl rfl | exact Or.inr rfl))))
      (ss_cons (ss_asg (es_str) (gs_name (pg_name (i := 5) sc_law_signs.nd rfl (by first | exact Or.inl rfl | exact Or.inr rfl))))
      (ss_cons (ss_for (passes_of rfl) rfl (is_range rfl T.n_range (es_var (pv 2))) (gs_name (pg_name (i := 6) sc_law_signs.nd rfl (by first | exact Or.inl rfl | exact Or.inr rfl))) (ss_cons (ss_asg (es_call (tks_of rfl rfl rfl rfl) (d_law_pick T) (hr.mono (by omega)) rfl T.g_law_pick T.k_law_pick (as_cons (es_var (pv 0)) (as_cons (es_var (pv 1)) (as_cons (es_var (pv 4)) (as_nil))))) (gs_name (pg_name (i := 7) sc_law_signs.nd rfl (by first | exact Or.inl rfl | exact Or.inr rfl))))
      (ss_one (ss_asg (es_add isF (es_var (pv 5)) (es_if (ts_w (ws_and (ts_cmp (c_in hr.u65) (es_var (pv 7)) (es_str)) (ws_and1 (ts_not (ts_tru (es_var (pv 3))))))) (es_str) (es_var (pv 7)))) (gs_name (pg_name (i := 5) sc_law_signs.nd rfl (by first | exact Or.inl rfl | exact Or.inr rfl)))))))
      (ss_one (ss_ret (es_var (pv 5)))))))
theorem d_law_level (T : Txt K mg A) : Df true P w K mg base J 6 2 A.f_law_level m_law_level := by
  obtain ⟨fd, F, hb⟩ := T.d_law_level
  exact df_of F sc_law_level hb fun cdv A outer s H E hr =>
    (ss_cons (ss_asg (es_call (tks_of rfl rfl rfl rfl) (d_law_draw T) (hr.mono (by omega)) rfl T.g_law_draw T.k_law_draw (as_cons (es_var (pv 0)) (as_cons (es_var (pv 1)) (as_cons (es_int) (as_nil))))) (gs_name (pg_name (i := 2) sc_law_level.nd rfl (by first | exact Or.inl rfl | exact Or.inr rfl))))
      (ss_cons (ss_if (ts_cmp (c_lt) (es_var (pv 2)) (es_int) (nomark _)) (ss_one (ss_ret (es_call (tks_of rfl rfl rfl rfl) (d_law_pick T) (hr.mono (by omega)) rfl T.g_law_pick T.k_law_pick (as_cons (es_var (pv 0)) (as_cons (es_var (pv 1)) (as_cons (es_lst isF (as_cons (es_str) (as_cons (es_str) (as_cons (es_str) (as_cons (es_str) (as_cons (es_str) (as_nil))))))) (as_nil))))))) (ss_nil))
      (ss_one (ss_ret (es_call (tks_of rfl rfl rfl rfl) (d_law_signs T) (hr.mono (by omega)) rfl T.g_law_signs T.k_law_signs (as_cons (es_var (pv 0)) (as_cons (es_var (pv 1)) (as_cons (es_call (tks_of rfl rfl rfl rfl) (d_law_pick T) (hr.mono (by omega)) rfl T.g_law_pick T.k_law_pick (as_cons (es_var (pv 0)) (as_cons (es_var (pv 1)) (as_cons (es_lst isF (as_cons (es_int) (as_cons (es_int) (as_cons (es_int) (as_cons (es_int) (as_nil)))))) (as_nil))))) (as_cons (es_bl) (as_nil))))))))))
theorem d_law_wish (T : Txt K mg A) : Df true P w K mg base J 7 3 A.f_law_wish m_law_wish := by
  obtain ⟨fd, F, hb⟩ := T.d_law_wish
  exact df_of F sc_law_wish hb fun cdv A outer s H E hr =>
    (ss_cons (ss_setLc (i := 3) (own := [("level", 5)]) isM rfl sc_law_wish.nd rfl rfl (sw_true rfl rfl rfl (by decide +kernel)) (is_seq (es_var (pv 2))) (blkOk_by (own := [("level", 5)]) (N := ["script", "town", "levels", "found", "wish", "level"]) (sc := defScope s_law_wish) (by decide +kernel)) (by decide) (fun _ _ _ _ _ => gs_name (pg_name (i := 5) sc_law_wish.nd rfl (by first | exact Or.inl rfl | exact Or.inr rfl))) (fun _ _ _ _ _ => tts_nil) (fun _ _ _ _ _ => es_call tks0 (d_law_pick T) (hr.mono (by omega)) rfl T.g_law_pick T.k_law_pick (as_cons (es_var (pv 0)) (as_cons (es_var (pv 1)) (as_cons (es_lst isF (as_cons (es_var (pv 5)) (as_cons (es_var (pv 5)) (as_cons (es_str) (as_cons (es_call tks0 (d_law_level T) (hr.mono (by omega)) rfl T.g_law_level T.k_law_level (as_cons (es_var (pv 0)) (as_cons (es_var (pv 1)) (as_nil)))) (as_nil)))))) (as_nil))))))
      (ss_cons (ss_if (ts_cmp (c_eq hr.units) (es_call (tks_of rfl rfl rfl rfl) (d_law_draw T) (hr.mono (by omega)) rfl T.g_law_draw T.k_law_draw (as_cons (es_var (pv 0)) (as_cons (es_var (pv 1)) (as_cons (es_int) (as_nil))))) (es_int) (nomark _)) (ss_one (ss_setI (es_var (pv 3)) (es_neg (es_int)) (es_str))) (ss_nil))
      (ss_cons (ss_asg (es_bm1 m_join (es_str) (es_var (pv 3))) (gs_name (pg_name (i := 4) sc_law_wish.nd rfl (by first | exact Or.inl rfl | exact Or.inr rfl))))
      (ss_one (ss_ret (es_if (ts_tru (es_call (tks_of rfl rfl rfl rfl) (d_law_is_wish T) (hr.mono (by omega)) rfl T.g_law_is_wish T.k_law_is_wish (as_cons (es_var (pv 4)) (as_nil)))) (es_var (pv 4)) (es_add isF (es_str) (es_var (pv 4)))))))))
theorem dr_Book_collect (T : Txt K mg A) : ∀ n, Df true P w K mg base J (2 + n) 5 A.f_Book_collect (r_Book_collect n)
  | 0 => by
    obtain ⟨fd, F, hb⟩ := T.d_Book_collect
    exact Df.mono (df_of (k := 0) F sc_Book_collect hb fun cdv A outer s H E hr => ss_bad) (by omega)
  | n + 1 => by
    obtain ⟨fd, F, hb⟩ := T.d_Book_collect
    have D := dr_Book_collect T n
    exact df_of (k := 2 + n) F sc_Book_collect hb fun cdv A outer s H E hr =>
    (ss_cons (ss_if (ts_not (ts_w (ws_and (ts_tru (es_var (pv 3))) (ws_and1 (ts_tru (es_bm1 m_starts (es_ix (es_var (pv 2)) (es_int)) (es_str))))))) (ss_cons (ss_expr (es_meth (tks_of rfl rfl rfl rfl) T.me_Book_take (d_Book_take T) (hr.mono (by omega)) (es_var (pv 0)) (as_cons (es_dget2 hr.u1 (es_fld T.a_Node_below (es_var (pv 1))) (es_str) (es_non)) (as_cons (es_var (pv 4)) (as_nil)))))
      (ss_one (ss_if (ts_w (ws_and (ts_tru (es_var (pv 2))) (ws_and1 (ts_din hr.u1 (es_str) (es_fld T.a_Node_below (es_var (pv 1))))))) (ss_one (ss_expr (es_meth (tks_of rfl rfl rfl rfl) T.me_Book_collect D (hr.mono (by omega)) (es_var (pv 0)) (as_cons (es_dget hr.u1 (es_fld T.a_Node_below (es_var (pv 1))) (es_str)) (as_cons (es_sl isF (es_var (pv 2)) (os_some (es_int)) (os_none)) (as_cons (es_bl) (as_cons (es_var (pv 4)) (as_nil)))))))) (ss_nil)))) (ss_nil))
      (ss_one (ss_if (ts_not (ts_tru (es_var (pv 2)))) (ss_one (ss_expr (es_meth (tks_of rfl rfl rfl rfl) T.me_Book_take (d_Book_take T) (hr.mono (by omega)) (es_var (pv 0)) (as_cons (es_var (pv 1)) (as_cons (es_var (pv 4)) (as_nil)))))) (ss_one (ss_if (ts_din hr.u1 (es_ix (es_var (pv 2)) (es_int)) (es_fld T.a_Node_below (es_var (pv 1)))) (ss_one (ss_expr (es_meth (tks_of rfl rfl rfl rfl) T.me_Book_collect D (hr.mono (by omega)) (es_var (pv 0)) (as_cons (es_dget hr.u1 (es_fld T.a_Node_below (es_var (pv 1))) (es_ix (es_var (pv 2)) (es_int))) (as_cons (es_sl isF (es_var (pv 2)) (os_some (es_int)) (os_none)) (as_cons (es_bl) (as_cons (es_var (pv 4)) (as_nil)))))))) (ss_nil))))))
theorem d_Book_collect (T : Txt K mg A) : Df true P w K mg base J 14 5 A.f_Book_collect m_Book_collect := dr_Book_collect T 12
theorem d_Book_hears (T : Txt K mg A) : Df true P w K mg base J 15 2 A.f_Book_hears m_Book_hears := by
  obtain ⟨fd, F, hb⟩ := T.d_Book_hears
  exact df_of F sc_Book_hears hb fun cdv A outer s H E hr =>
    (ss_cons (ss_expr (es_call (tks_of rfl rfl rfl rfl) (d_look_name T) (hr.mono (by omega)) rfl T.g_look_name T.k_look_name (as_cons (es_var (pv 1)) (as_nil))))
      (ss_cons (ss_asg (es_dnewK) (gs_name (pg_name (i := 2) sc_Book_hears.nd rfl (by first | exact Or.inl rfl | exact Or.inr rfl))))
      (ss_cons (ss_expr (es_meth (tks_of rfl rfl rfl rfl) T.me_Book_collect (d_Book_collect T) (hr.mono (by omega)) (es_var (pv 0)) (as_cons (es_fld T.a_Book_top (es_var (pv 0))) (as_cons (es_bm1 (m_split isF) (es_var (pv 1)) (es_str)) (as_cons (es_bl) (as_cons (es_var (pv 2)) (as_nil)))))))
      (ss_one (ss_ret (es_lc (own := [("hearer", 3)]) isM rfl sc_Book_hears.nd (is_seq (es_sortK isF rfl rfl T.n_sorted (by decide +kernel) (es_var (pv 2)))) (blkOk_by (own := [("hearer", 3)]) (N := ["self", "name", "found", "hearer"]) (sc := defScope s_Book_hears) (by decide +kernel)) (by decide) (fun _ _ _ _ _ => gs_name (pg_name (i := 3) sc_Book_hears.nd rfl (by first | exact Or.inl rfl | exact Or.inr rfl))) (fun _ _ _ _ _ => tts_nil) (fun _ _ _ _ _ => es_tup (as_cons (es_var (pv 3)) (as_cons (es_dget hr.u1 (es_var (pv 2)) (es_var (pv 3))) (as_nil))))))))))
theorem fn_law {fd : FuncData} (T : Txt K mg A) (F : Fun K "law" "law" s_law A.f_law fd) : FnOk P w K mg base (cxt true P w) 16 A.f_law fd ["script"] (spD ⟨K, mg, J⟩ 1 m_law) :=
  fn_of_body F sc_law rfl rfl fun cdv A outer s H E hr =>
    (ss_cons (ss_asg (es_lst isM (as_nil)) (gs_name (pg_name (i := 1) sc_law.nd rfl (by first | exact Or.inl rfl | exact Or.inr rfl))))
      (ss_cons (ss_setLc (i := 2) (own := [("k", 5)]) isF rfl sc_law.nd rfl rfl (sw_true rfl rfl rfl (by decide +kernel)) (is_range rfl T.n_range (es_add isF (es_int) (es_call (tks_of rfl rfl rfl rfl) (d_law_draw T) (hr.mono (by omega)) rfl T.g_law_draw T.k_law_draw (as_cons (es_var (pv 0)) (as_cons (es_var (pv 1)) (as_cons (es_int) (as_nil))))))) (blkOk_by (own := [("k", 5)]) (N := ["script", "town", "levels", "name", "table", "k", "hearer", "one", "other", "keys", "key", "at", "wish", "some"]) (sc := defScope s_law) (by decide +kernel)) (by decide) (fun _ _ _ _ _ => gs_name (pg_name (i := 5) sc_law.nd rfl (by first | exact Or.inl rfl | exact Or.inr rfl))) (fun _ _ _ _ _ => tts_nil) (fun _ _ _ _ _ => es_call tks0 (d_law_level T) (hr.mono (by omega)) rfl T.g_law_level T.k_law_level (as_cons (es_var (pv 0)) (as_cons (es_var (pv 1)) (as_nil)))))
      (ss_cons (ss_asg (es_if (ts_cmp (c_ne hr.units) (es_var (pv 2)) (es_lst isF (as_cons (es_str) (as_nil))) (nomark _)) (es_bm1 m_join (es_str) (es_var (pv 2))) (es_str)) (gs_name (pg_name (i := 3) sc_law.nd rfl (by first | exact Or.inl rfl | exact Or.inr rfl))))
      (ss_cons (ss_asg (es_dnewT) (gs_name (pg_name (i := 4) sc_law.nd rfl (by first | exact Or.inl rfl | exact Or.inr rfl))))
      (ss_cons (ss_for (passes_of rfl) rfl (is_range rfl T.n_range (es_call (tks_of rfl rfl rfl rfl) (d_law_draw T) (hr.mono (by omega)) rfl T.g_law_draw T.k_law_draw (as_cons (es_var (pv 0)) (as_cons (es_var (pv 1)) (as_cons (es_int) (as_nil)))))) (gs_name (pg_name (i := 5) sc_law.nd rfl (by first | exact Or.inl rfl | exact Or.inr rfl))) (ss_cons (ss_asg (es_call (tks_of rfl rfl rfl rfl) (d_law_pick T) (hr.mono (by omega)) rfl T.g_law_pick T.k_law_pick (as_cons (es_var (pv 0)) (as_cons (es_var (pv 1)) (as_cons (es_lst isF (as_cons (es_str) (as_cons (es_str) (as_cons (es_str) (as_nil))))) (as_nil))))) (gs_name (pg_name (i := 6) sc_law.nd rfl (by first | exact Or.inl rfl | exact Or.inr rfl))))
      (ss_one (ss_dput hr.u1 (es_var (pv 4)) (es_tup (as_cons (es_var (pv 6)) (as_cons (es_call (tks_of rfl rfl rfl rfl) (d_law_wish T) (hr.mono (by omega)) rfl T.g_law_wish T.k_law_wish (as_cons (es_var (pv 0)) (as_cons (es_var (pv 1)) (as_cons (es_var (pv 2)) (as_nil))))) (as_nil)))) (es_call (tks_of rfl rfl rfl rfl) (d_law_draw T) (hr.mono (by omega)) rfl T.g_law_draw T.k_law_draw (as_cons (es_var (pv 0)) (as_cons (es_var (pv 1)) (as_cons (es_int) (as_nil)))))))))
      (ss_cons (ss_asg (es_make0 (tks_of rfl rfl rfl rfl) T.mk_Book (d_Book_init T) (hr.mono (by omega)) (m_Book_init_non) rfl rfl) (gs_name (pg_name (i := 7) sc_law.nd rfl (by first | exact Or.inl rfl | exact Or.inr rfl))))
      (ss_cons (ss_asg (es_make0 (tks_of rfl rfl rfl rfl) T.mk_Book (d_Book_init T) (hr.mono (by omega)) (m_Book_init_non) rfl rfl) (gs_name (pg_name (i := 8) sc_law.nd rfl (by first | exact Or.inl rfl | exact Or.inr rfl))))
      (ss_cons (ss_asg (es_sortK isF rfl rfl T.n_sorted (by decide +kernel) (es_var (pv 4))) (gs_name (pg_name (i := 9) sc_law.nd rfl (by first | exact Or.inl rfl | exact Or.inr rfl))))
      (ss_cons (ss_for (passes_of rfl) rfl (is_seq (es_var (pv 9))) (gs_name (pg_name (i := 10) sc_law.nd rfl (by first | exact Or.inl rfl | exact Or.inr rfl))) (ss_one (ss_expr (es_meth (tks_of rfl rfl rfl rfl) T.me_Book_put (d_Book_put T) (hr.mono (by omega)) (es_var (pv 7)) (as_cons (es_ix (es_var (pv 10)) (es_int)) (as_cons (es_ix (es_var (pv 10)) (es_int)) (as_cons (es_dget hr.u1 (es_var (pv 4)) (es_var (pv 10))) (as_nil))))))))
      (ss_cons (ss_expr (es_meth (tks_of rfl rfl rfl rfl) T.me_Book_put (d_Book_put T) (hr.mono (by omega)) (es_var (pv 8)) (as_cons (es_str) (as_cons (es_str) (as_cons (es_int) (as_nil))))))
      (ss_cons (ss_expr (es_meth (tks_of rfl rfl rfl rfl) T.me_Book_put (d_Book_put T) (hr.mono (by omega)) (es_var (pv 8)) (as_cons (es_str) (as_cons (es_var (pv 3)) (as_cons (es_int) (as_nil))))))
      (ss_cons (ss_asg (es_call (tks_of rfl rfl rfl rfl) (d_law_draw T) (hr.mono (by omega)) rfl T.g_law_draw T.k_law_draw (as_cons (es_var (pv 0)) (as_cons (es_var (pv 1)) (as_cons (es_add isF (es_b1 (b_len) rfl T.n_len (by decide +kernel) (es_var (pv 9))) (es_int)) (as_nil))))) (gs_name (pg_name (i := 11) sc_law.nd rfl (by first | exact Or.inl rfl | exact Or.inr rfl))))
      (ss_cons (ss_for (passes_of rfl) rfl (is_seq (es_add isF (es_rev isF (es_sl isF (es_var (pv 9)) (os_some (es_var (pv 11))) (os_none))) (es_sl isF (es_var (pv 9)) (os_none) (os_some (es_var (pv 11)))))) (gs_name (pg_name (i := 10) sc_law.nd rfl (by first | exact Or.inl rfl | exact Or.inr rfl))) (ss_cons (ss_asg (es_call (tks_of rfl rfl rfl rfl) (d_law_wish T) (hr.mono (by omega)) rfl T.g_law_wish T.k_law_wish (as_cons (es_var (pv 0)) (as_cons (es_var (pv 1)) (as_cons (es_var (pv 2)) (as_nil))))) (gs_name (pg_name (i := 12) sc_law.nd rfl (by first | exact Or.inl rfl | exact Or.inr rfl))))
      (ss_cons (ss_if (ts_w (ws_and (ts_dnotIn hr.u1 (es_tup (as_cons (es_ix (es_var (pv 10)) (es_int)) (as_cons (es_var (pv 12)) (as_nil)))) (es_var (pv 4))) (ws_and1 (ts_tru (es_meth (tks_of rfl rfl rfl rfl) T.me_Book_put (d_Book_put T) (hr.mono (by omega)) (es_var (pv 8)) (as_cons (es_ix (es_var (pv 10)) (es_int)) (as_cons (es_var (pv 12)) (as_cons (es_int) (as_nil))))))))) (ss_one (ss_if (ts_w (ws_or (ts_cmp (c_isNotB) (es_meth (tks_of rfl rfl rfl rfl) T.me_Book_drop (d_Book_drop T) (hr.mono (by omega)) (es_var (pv 8)) (as_cons (es_ix (es_var (pv 10)) (es_int)) (as_cons (es_var (pv 12)) (as_nil)))) (es_bl) (nomark _)) (ws_or1 (ts_cmp (c_isNotB) (es_meth (tks_of rfl rfl rfl rfl) T.me_Book_drop (d_Book_drop T) (hr.mono (by omega)) (es_var (pv 8)) (as_cons (es_ix (es_var (pv 10)) (es_int)) (as_cons (es_var (pv 12)) (as_nil)))) (es_bl) (nomark _))))) (ss_one (ss_ret (es_bl))) (ss_nil))) (ss_nil))
      (ss_cons (ss_expr (es_meth (tks_of rfl rfl rfl rfl) T.me_Book_put (d_Book_put T) (hr.mono (by omega)) (es_var (pv 8)) (as_cons (es_ix (es_var (pv 10)) (es_int)) (as_cons (es_ix (es_var (pv 10)) (es_int)) (as_cons (es_sub (es_int) (es_dget hr.u1 (es_var (pv 4)) (es_var (pv 10)))) (as_nil))))))
      (ss_one (ss_if (ts_cmp (c_isNotB) (es_meth (tks_of rfl rfl rfl rfl) T.me_Book_put (d_Book_put T) (hr.mono (by omega)) (es_var (pv 8)) (as_cons (es_ix (es_var (pv 10)) (es_int)) (as_cons (es_ix (es_var (pv 10)) (es_int)) (as_cons (es_dget hr.u1 (es_var (pv 4)) (es_var (pv 10))) (as_nil))))) (es_bl) (nomark _)) (ss_one (ss_ret (es_bl))) (ss_nil)))))))
      (ss_cons (ss_if (ts_w (ws_or (ts_cmp (c_ne hr.units) (es_meth (tks_of rfl rfl rfl rfl) T.me_Book_leave (d_Book_leave T) (hr.mono (by omega)) (es_var (pv 8)) (as_cons (es_str) (as_nil))) (es_lenTx rfl rfl T.n_len rfl T.n_set (es_lst isF (as_cons (es_str) (as_cons (es_var (pv 3)) (as_nil))))) (nomark _)) (ws_or1 (ts_cmp (c_ne hr.units) (es_meth (tks_of rfl rfl rfl rfl) T.me_Book_leave (d_Book_leave T) (hr.mono (by omega)) (es_var (pv 8)) (as_cons (es_str) (as_nil))) (es_int) (nomark _))))) (ss_one (ss_ret (es_bl))) (ss_nil))
      (ss_cons (ss_for (passes_of rfl) rfl (is_seq (es_lst isF (as_cons (es_var (pv 3)) (as_cons (es_str) (as_cons (es_if (ts_cmp (c_lt) (es_b1 (b_len) rfl T.n_len (by decide +kernel) (es_var (pv 2))) (es_int) (nomark _)) (es_add isF (es_var (pv 3)) (es_str)) (es_var (pv 3))) (as_nil)))))) (gs_name (pg_name (i := 13) sc_law.nd rfl (by first | exact Or.inl rfl | exact Or.inr rfl))) (ss_one (ss_if (ts_cmp (c_ne hr.units) (es_meth (tks_of rfl rfl rfl rfl) T.me_Book_hears (d_Book_hears T) (hr.mono (by omega)) (es_var (pv 7)) (as_cons (es_var (pv 13)) (as_nil))) (es_meth (tks_of rfl rfl rfl rfl) T.me_Book_hears (d_Book_hears T) (hr.mono (by omega)) (es_var (pv 8)) (as_cons (es_var (pv 13)) (as_nil))) (nomark _)) (ss_one (ss_ret (es_bl))) (ss_nil))))
      (ss_cons (ss_if (ts_not (ts_tru (es_b1 (b_all rfl) rfl T.n_all (by decide +kernel) (es_lc (own := [("hearer", 6)]) isF rfl sc_law.nd (is_seq (es_lst isF (as_cons (es_str) (as_cons (es_str) (as_cons (es_str) (as_cons (es_str) (as_nil))))))) (blkOk_by (own := [("hearer", 6)]) (N := ["script", "town", "levels", "name", "table", "k", "hearer", "one", "other", "keys", "key", "at", "wish", "some"]) (sc := defScope s_law) (by decide +kernel)) (by decide) (fun _ _ _ _ _ => gs_name (pg_name (i := 6) sc_law.nd rfl (by first | exact Or.inl rfl | exact Or.inr rfl))) (fun _ _ _ _ _ => tts_nil) (fun _ _ _ _ _ => es_cmp (c_eq hr.units) (es_meth tks0 T.me_Book_wishes (d_Book_wishes T) (hr.mono (by omega)) (es_var (pv 7)) (as_cons (es_var (pv 6)) (as_nil))) (es_meth tks0 T.me_Book_wishes (d_Book_wishes T) (hr.mono (by omega)) (es_var (pv 8)) (as_cons (es_var (pv 6)) (as_nil))) (nomark _)))))) (ss_one (ss_ret (es_bl))) (ss_nil))
      (ss_one (ss_ret (es_and (es_cmp (c_eq hr.units) (es_meth0 (tks_of rfl rfl rfl rfl) T.me_Book_size (d_Book_size T) (hr.mono (by omega)) (es_var (pv 7))) (es_b1 (b_len) rfl T.n_len (by decide +kernel) (es_var (pv 4))) (nomark _)) (es_one (es_cmp (c_eq hr.units) (es_meth0 (tks_of rfl rfl rfl rfl) T.me_Book_size (d_Book_size T) (hr.mono (by omega)) (es_var (pv 8))) (es_b1 (b_len) rfl T.n_len (by decide +kernel) (es_var (pv 4))) (nomark _))))))))))))))))))))))
end
theorem all_mk {l : PySem.W.OpenLaw} {w : World} {K : PySem.W.Frag} {h : Heap} {mg : Str → Option Value} {fa : Addr} (X : K.In h) (G : h.Ns mainGlobals mg) (hfa : mg "law" = some (.ref fa))
    {C_Node : Addr}
    {C_Book : Addr}
    {C_TidingError : Addr}
    {C_BadName : Addr}
    {f_is_level : Addr} {od_is_level an_is_level : Option Addr} {sl_is_level : Array (Option Value)} {oc_is_level kV_is_level dc_is_level pm_is_level cd_is_level ct_is_level : Value}
    {f_look_hearer : Addr} {od_look_hearer an_look_hearer : Option Addr} {sl_look_hearer : Array (Option Value)} {oc_look_hearer kV_look_hearer dc_look_hearer pm_look_hearer cd_look_hearer ct_look_hearer : Value}
    {f_look_grade : Addr} {od_look_grade an_look_grade : Option Addr} {sl_look_grade : Array (Option Value)} {oc_look_grade kV_look_grade dc_look_grade pm_look_grade cd_look_grade ct_look_grade : Value}
    {f_Node_init : Addr} {od_Node_init an_Node_init : Option Addr} {sl_Node_init : Array (Option Value)} {oc_Node_init kV_Node_init dc_Node_init pm_Node_init cd_Node_init ct_Node_init : Value}
    {f_Book_wishes : Addr} {od_Book_wishes an_Book_wishes : Option Addr} {sl_Book_wishes : Array (Option Value)} {oc_Book_wishes kV_Book_wishes dc_Book_wishes pm_Book_wishes cd_Book_wishes ct_Book_wishes : Value}
    {f_Book_size : Addr} {od_Book_size an_Book_size : Option Addr} {sl_Book_size : Array (Option Value)} {oc_Book_size kV_Book_size dc_Book_size pm_Book_size cd_Book_size ct_Book_size : Value}
    {f_Book_take : Addr} {od_Book_take an_Book_take : Option Addr} {sl_Book_take : Array (Option Value)} {oc_Book_take kV_Book_take dc_Book_take pm_Book_take cd_Book_take ct_Book_take : Value}
    {f_law_cell : Addr} {od_law_cell an_law_cell : Option Addr} {sl_law_cell : Array (Option Value)} {oc_law_cell kV_law_cell dc_law_cell pm_law_cell cd_law_cell ct_law_cell : Value}
    {f_law_is_level : Addr} {od_law_is_level an_law_is_level : Option Addr} {sl_law_is_level : Array (Option Value)} {oc_law_is_level kV_law_is_level dc_law_is_level pm_law_is_level cd_law_is_level ct_law_is_level : Value}
    {f_look_name : Addr} {od_look_name an_look_name : Option Addr} {sl_look_name : Array (Option Value)} {oc_look_name kV_look_name dc_look_name pm_look_name cd_look_name ct_look_name : Value}
    {f_look_wish : Addr} {od_look_wish an_look_wish : Option Addr} {sl_look_wish : Array (Option Value)} {oc_look_wish kV_look_wish dc_look_wish pm_look_wish cd_look_wish ct_look_wish : Value}
    {f_law_mix : Addr} {od_law_mix an_law_mix : Option Addr} {sl_law_mix : Array (Option Value)} {oc_law_mix kV_law_mix dc_law_mix pm_law_mix cd_law_mix ct_law_mix : Value}
    {f_law_is_wish : Addr} {od_law_is_wish an_law_is_wish : Option Addr} {sl_law_is_wish : Array (Option Value)} {oc_law_is_wish kV_law_is_wish dc_law_is_wish pm_law_is_wish cd_law_is_wish ct_law_is_wish : Value}
    {f_Book_init : Addr} {od_Book_init an_Book_init : Option Addr} {sl_Book_init : Array (Option Value)} {oc_Book_init kV_Book_init dc_Book_init pm_Book_init cd_Book_init ct_Book_init : Value}
    {f_Book_node : Addr} {od_Book_node an_Book_node : Option Addr} {sl_Book_node : Array (Option Value)} {oc_Book_node kV_Book_node dc_Book_node pm_Book_node cd_Book_node ct_Book_node : Value}
    {f_law_draw : Addr} {od_law_draw an_law_draw : Option Addr} {sl_law_draw : Array (Option Value)} {oc_law_draw kV_law_draw dc_law_draw pm_law_draw cd_law_draw ct_law_draw : Value}
    {f_Book_put : Addr} {od_Book_put an_Book_put : Option Addr} {sl_Book_put : Array (Option Value)} {oc_Book_put kV_Book_put dc_Book_put pm_Book_put cd_Book_put ct_Book_put : Value}
    {f_Book_drop : Addr} {od_Book_drop an_Book_drop : Option Addr} {sl_Book_drop : Array (Option Value)} {oc_Book_drop kV_Book_drop dc_Book_drop pm_Book_drop cd_Book_drop ct_Book_drop : Value}
    {f_law_pick : Addr} {od_law_pick an_law_pick : Option Addr} {sl_law_pick : Array (Option Value)} {oc_law_pick kV_law_pick dc_law_pick pm_law_pick cd_law_pick ct_law_pick : Value}
    {f_Book_leave : Addr} {od_Book_leave an_Book_leave : Option Addr} {sl_Book_leave : Array (Option Value)} {oc_Book_leave kV_Book_leave dc_Book_leave pm_Book_leave cd_Book_leave ct_Book_leave : Value}
    {f_law_signs : Addr} {od_law_signs an_law_signs : Option Addr} {sl_law_signs : Array (Option Value)} {oc_law_signs kV_law_signs dc_law_signs pm_law_signs cd_law_signs ct_law_signs : Value}
    {f_law_level : Addr} {od_law_level an_law_level : Option Addr} {sl_law_level : Array (Option Value)} {oc_law_level kV_law_level dc_law_level pm_law_level cd_law_level ct_law_level : Value}
    {f_law_wish : Addr} {od_law_wish an_law_wish : Option Addr} {sl_law_wish : Array (Option Value)} {oc_law_wish kV_law_wish dc_law_wish pm_law_wish cd_law_wish ct_law_wish : Value}
    {f_Book_collect : Addr} {od_Book_collect an_Book_collect : Option Addr} {sl_Book_collect : Array (Option Value)} {oc_Book_collect kV_Book_collect dc_Book_collect pm_Book_collect cd_Book_collect ct_Book_collect : Value}
    {f_Book_hears : Addr} {od_Book_hears an_Book_hears : Option Addr} {sl_Book_hears : Array (Option Value)} {oc_Book_hears kV_Book_hears dc_Book_hears pm_Book_hears cd_Book_hears ct_Book_hears : Value}
    {f_law : Addr} {od_law an_law : Option Addr} {sl_law : Array (Option Value)} {oc_law kV_law dc_law pm_law cd_law ct_law : Value}
    {t_MOST_LEVELS : Tok}
    {t_MOST_SIGNS : Tok}
    {t_SMALL : Tok}
    (aC_Node : PySem.W.nsIn K mainGlobals "Node" = some (some (.ref C_Node)))
    (kC_Node : PySem.W.keepIn K (.ref C_Node) = true)
    (aC_Book : PySem.W.nsIn K mainGlobals "Book" = some (some (.ref C_Book)))
    (kC_Book : PySem.W.keepIn K (.ref C_Book) = true)
    (aC_TidingError : PySem.W.nsIn K mainGlobals "TidingError" = some (some (.ref C_TidingError)))
    (kC_TidingError : PySem.W.keepIn K (.ref C_TidingError) = true)
    (aC_BadName : PySem.W.nsIn K mainGlobals "BadName" = some (some (.ref C_BadName)))
    (kC_BadName : PySem.W.keepIn K (.ref C_BadName) = true)
    (a_is_level : PySem.W.nsIn K mainGlobals "is_level" = some (some (.ref f_is_level)))
    (l_is_level : K.lookup f_is_level = some ⟨oc_is_level, od_is_level, .func (PySem.W.fnOf "is_level" "is_level" (defArgs s_is_level) (defBody s_is_level) (defScope s_is_level) .none kV_is_level dc_is_level pm_is_level an_is_level cd_is_level ct_is_level), sl_is_level⟩)
    (c_is_level : PySem.W.codeIn K cd_is_level "is_level" = true)
    (k_is_level : PySem.W.keepIn K (.ref f_is_level) = true)
    (a_look_hearer : PySem.W.nsIn K mainGlobals "look_hearer" = some (some (.ref f_look_hearer)))
    (l_look_hearer : K.lookup f_look_hearer = some ⟨oc_look_hearer, od_look_hearer, .func (PySem.W.fnOf "look_hearer" "look_hearer" (defArgs s_look_hearer) (defBody s_look_hearer) (defScope s_look_hearer) .none kV_look_hearer dc_look_hearer pm_look_hearer an_look_hearer cd_look_hearer ct_look_hearer), sl_look_hearer⟩)
    (c_look_hearer : PySem.W.codeIn K cd_look_hearer "look_hearer" = true)
    (k_look_hearer : PySem.W.keepIn K (.ref f_look_hearer) = true)
    (a_look_grade : PySem.W.nsIn K mainGlobals "look_grade" = some (some (.ref f_look_grade)))
    (l_look_grade : K.lookup f_look_grade = some ⟨oc_look_grade, od_look_grade, .func (PySem.W.fnOf "look_grade" "look_grade" (defArgs s_look_grade) (defBody s_look_grade) (defScope s_look_grade) .none kV_look_grade dc_look_grade pm_look_grade an_look_grade cd_look_grade ct_look_grade), sl_look_grade⟩)
    (c_look_grade : PySem.W.codeIn K cd_look_grade "look_grade" = true)
    (k_look_grade : PySem.W.keepIn K (.ref f_look_grade) = true)
    (a_Node_init : PySem.W.findIn K (.ref C_Node) "__init__" = some (some (.ref f_Node_init)))
    (i_Node_init : PySem.W.isFn K (.ref f_Node_init) = true)
    (l_Node_init : K.lookup f_Node_init = some ⟨oc_Node_init, od_Node_init, .func (PySem.W.fnOf "__init__" "Node.__init__" (defArgs s_Node_init) (defBody s_Node_init) (defScope s_Node_init) .none kV_Node_init dc_Node_init pm_Node_init an_Node_init cd_Node_init ct_Node_init), sl_Node_init⟩)
    (c_Node_init : PySem.W.codeIn K cd_Node_init "Node.__init__" = true)
    (k_Node_init : PySem.W.keepIn K (.ref f_Node_init) = true)
    (a_Book_wishes : PySem.W.findIn K (.ref C_Book) "wishes" = some (some (.ref f_Book_wishes)))
    (i_Book_wishes : PySem.W.isFn K (.ref f_Book_wishes) = true)
    (l_Book_wishes : K.lookup f_Book_wishes = some ⟨oc_Book_wishes, od_Book_wishes, .func (PySem.W.fnOf "wishes" "Book.wishes" (defArgs s_Book_wishes) (defBody s_Book_wishes) (defScope s_Book_wishes) .none kV_Book_wishes dc_Book_wishes pm_Book_wishes an_Book_wishes cd_Book_wishes ct_Book_wishes), sl_Book_wishes⟩)
    (c_Book_wishes : PySem.W.codeIn K cd_Book_wishes "Book.wishes" = true)
    (k_Book_wishes : PySem.W.keepIn K (.ref f_Book_wishes) = true)
    (a_Book_size : PySem.W.findIn K (.ref C_Book) "size" = some (some (.ref f_Book_size)))
    (i_Book_size : PySem.W.isFn K (.ref f_Book_size) = true)
    (l_Book_size : K.lookup f_Book_size = some ⟨oc_Book_size, od_Book_size, .func (PySem.W.fnOf "size" "Book.size" (defArgs s_Book_size) (defBody s_Book_size) (defScope s_Book_size) .none kV_Book_size dc_Book_size pm_Book_size an_Book_size cd_Book_size ct_Book_size), sl_Book_size⟩)
    (c_Book_size : PySem.W.codeIn K cd_Book_size "Book.size" = true)
    (k_Book_size : PySem.W.keepIn K (.ref f_Book_size) = true)
    (a_Book_take : PySem.W.findIn K (.ref C_Book) "take" = some (some (.ref f_Book_take)))
    (i_Book_take : PySem.W.isFn K (.ref f_Book_take) = true)
    (l_Book_take : K.lookup f_Book_take = some ⟨oc_Book_take, od_Book_take, .func (PySem.W.fnOf "take" "Book.take" (defArgs s_Book_take) (defBody s_Book_take) (defScope s_Book_take) .none kV_Book_take dc_Book_take pm_Book_take an_Book_take cd_Book_take ct_Book_take), sl_Book_take⟩)
    (c_Book_take : PySem.W.codeIn K cd_Book_take "Book.take" = true)
    (k_Book_take : PySem.W.keepIn K (.ref f_Book_take) = true)
    (a_law_cell : PySem.W.nsIn K mainGlobals "_law_cell" = some (some (.ref f_law_cell)))
    (l_law_cell : K.lookup f_law_cell = some ⟨oc_law_cell, od_law_cell, .func (PySem.W.fnOf "_law_cell" "_law_cell" (defArgs s_law_cell) (defBody s_law_cell) (defScope s_law_cell) .none kV_law_cell dc_law_cell pm_law_cell an_law_cell cd_law_cell ct_law_cell), sl_law_cell⟩)
    (c_law_cell : PySem.W.codeIn K cd_law_cell "_law_cell" = true)
    (k_law_cell : PySem.W.keepIn K (.ref f_law_cell) = true)
    (a_law_is_level : PySem.W.nsIn K mainGlobals "_law_is_level" = some (some (.ref f_law_is_level)))
    (l_law_is_level : K.lookup f_law_is_level = some ⟨oc_law_is_level, od_law_is_level, .func (PySem.W.fnOf "_law_is_level" "_law_is_level" (defArgs s_law_is_level) (defBody s_law_is_level) (defScope s_law_is_level) .none kV_law_is_level dc_law_is_level pm_law_is_level an_law_is_level cd_law_is_level ct_law_is_level), sl_law_is_level⟩)
    (c_law_is_level : PySem.W.codeIn K cd_law_is_level "_law_is_level" = true)
    (k_law_is_level : PySem.W.keepIn K (.ref f_law_is_level) = true)
    (a_look_name : PySem.W.nsIn K mainGlobals "look_name" = some (some (.ref f_look_name)))
    (l_look_name : K.lookup f_look_name = some ⟨oc_look_name, od_look_name, .func (PySem.W.fnOf "look_name" "look_name" (defArgs s_look_name) (defBody s_look_name) (defScope s_look_name) .none kV_look_name dc_look_name pm_look_name an_look_name cd_look_name ct_look_name), sl_look_name⟩)
    (c_look_name : PySem.W.codeIn K cd_look_name "look_name" = true)
    (k_look_name : PySem.W.keepIn K (.ref f_look_name) = true)
    (a_look_wish : PySem.W.nsIn K mainGlobals "look_wish" = some (some (.ref f_look_wish)))
    (l_look_wish : K.lookup f_look_wish = some ⟨oc_look_wish, od_look_wish, .func (PySem.W.fnOf "look_wish" "look_wish" (defArgs s_look_wish) (defBody s_look_wish) (defScope s_look_wish) .none kV_look_wish dc_look_wish pm_look_wish an_look_wish cd_look_wish ct_look_wish), sl_look_wish⟩)
    (c_look_wish : PySem.W.codeIn K cd_look_wish "look_wish" = true)
    (k_look_wish : PySem.W.keepIn K (.ref f_look_wish) = true)
    (a_law_mix : PySem.W.nsIn K mainGlobals "_law_mix" = some (some (.ref f_law_mix)))
    (l_law_mix : K.lookup f_law_mix = some ⟨oc_law_mix, od_law_mix, .func (PySem.W.fnOf "_law_mix" "_law_mix" (defArgs s_law_mix) (defBody s_law_mix) (defScope s_law_mix) .none kV_law_mix dc_law_mix pm_law_mix an_law_mix cd_law_mix ct_law_mix), sl_law_mix⟩)
    (c_law_mix : PySem.W.codeIn K cd_law_mix "_law_mix" = true)
    (k_law_mix : PySem.W.keepIn K (.ref f_law_mix) = true)
    (a_law_is_wish : PySem.W.nsIn K mainGlobals "_law_is_wish" = some (some (.ref f_law_is_wish)))
    (l_law_is_wish : K.lookup f_law_is_wish = some ⟨oc_law_is_wish, od_law_is_wish, .func (PySem.W.fnOf "_law_is_wish" "_law_is_wish" (defArgs s_law_is_wish) (defBody s_law_is_wish) (defScope s_law_is_wish) .none kV_law_is_wish dc_law_is_wish pm_law_is_wish an_law_is_wish cd_law_is_wish ct_law_is_wish), sl_law_is_wish⟩)
    (c_law_is_wish : PySem.W.codeIn K cd_law_is_wish "_law_is_wish" = true)
    (k_law_is_wish : PySem.W.keepIn K (.ref f_law_is_wish) = true)
    (a_Book_init : PySem.W.findIn K (.ref C_Book) "__init__" = some (some (.ref f_Book_init)))
    (i_Book_init : PySem.W.isFn K (.ref f_Book_init) = true)
    (l_Book_init : K.lookup f_Book_init = some ⟨oc_Book_init, od_Book_init, .func (PySem.W.fnOf "__init__" "Book.__init__" (defArgs s_Book_init) (defBody s_Book_init) (defScope s_Book_init) .none kV_Book_init dc_Book_init pm_Book_init an_Book_init cd_Book_init ct_Book_init), sl_Book_init⟩)
    (c_Book_init : PySem.W.codeIn K cd_Book_init "Book.__init__" = true)
    (k_Book_init : PySem.W.keepIn K (.ref f_Book_init) = true)
    (a_Book_node : PySem.W.findIn K (.ref C_Book) "node" = some (some (.ref f_Book_node)))
    (i_Book_node : PySem.W.isFn K (.ref f_Book_node) = true)
    (l_Book_node : K.lookup f_Book_node = some ⟨oc_Book_node, od_Book_node, .func (PySem.W.fnOf "node" "Book.node" (defArgs s_Book_node) (defBody s_Book_node) (defScope s_Book_node) .none kV_Book_node dc_Book_node pm_Book_node an_Book_node cd_Book_node ct_Book_node), sl_Book_node⟩)
    (c_Book_node : PySem.W.codeIn K cd_Book_node "Book.node" = true)
    (k_Book_node : PySem.W.keepIn K (.ref f_Book_node) = true)
    (a_law_draw : PySem.W.nsIn K mainGlobals "_law_draw" = some (some (.ref f_law_draw)))
    (l_law_draw : K.lookup f_law_draw = some ⟨oc_law_draw, od_law_draw, .func (PySem.W.fnOf "_law_draw" "_law_draw" (defArgs s_law_draw) (defBody s_law_draw) (defScope s_law_draw) .none kV_law_draw dc_law_draw pm_law_draw an_law_draw cd_law_draw ct_law_draw), sl_law_draw⟩)
    (c_law_draw : PySem.W.codeIn K cd_law_draw "_law_draw" = true)
    (k_law_draw : PySem.W.keepIn K (.ref f_law_draw) = true)
    (a_Book_put : PySem.W.findIn K (.ref C_Book) "put" = some (some (.ref f_Book_put)))
    (i_Book_put : PySem.W.isFn K (.ref f_Book_put) = true)
    (l_Book_put : K.lookup f_Book_put = some ⟨oc_Book_put, od_Book_put, .func (PySem.W.fnOf "put" "Book.put" (defArgs s_Book_put) (defBody s_Book_put) (defScope s_Book_put) .none kV_Book_put dc_Book_put pm_Book_put an_Book_put cd_Book_put ct_Book_put), sl_Book_put⟩)
    (c_Book_put : PySem.W.codeIn K cd_Book_put "Book.put" = true)
    (k_Book_put : PySem.W.keepIn K (.ref f_Book_put) = true)
    (a_Book_drop : PySem.W.findIn K (.ref C_Book) "drop" = some (some (.ref f_Book_drop)))
    (i_Book_drop : PySem.W.isFn K (.ref f_Book_drop) = true)
    (l_Book_drop : K.lookup f_Book_drop = some ⟨oc_Book_drop, od_Book_drop, .func (PySem.W.fnOf "drop" "Book.drop" (defArgs s_Book_drop) (defBody s_Book_drop) (defScope s_Book_drop) .none kV_Book_drop dc_Book_drop pm_Book_drop an_Book_drop cd_Book_drop ct_Book_drop), sl_Book_drop⟩)
    (c_Book_drop : PySem.W.codeIn K cd_Book_drop "Book.drop" = true)
    (k_Book_drop : PySem.W.keepIn K (.ref f_Book_drop) = true)
    (a_law_pick : PySem.W.nsIn K mainGlobals "_law_pick" = some (some (.ref f_law_pick)))
    (l_law_pick : K.lookup f_law_pick = some ⟨oc_law_pick, od_law_pick, .func (PySem.W.fnOf "_law_pick" "_law_pick" (defArgs s_law_pick) (defBody s_law_pick) (defScope s_law_pick) .none kV_law_pick dc_law_pick pm_law_pick an_law_pick cd_law_pick ct_law_pick), sl_law_pick⟩)
    (c_law_pick : PySem.W.codeIn K cd_law_pick "_law_pick" = true)
    (k_law_pick : PySem.W.keepIn K (.ref f_law_pick) = true)
    (a_Book_leave : PySem.W.findIn K (.ref C_Book) "leave" = some (some (.ref f_Book_leave)))
    (i_Book_leave : PySem.W.isFn K (.ref f_Book_leave) = true)
    (l_Book_leave : K.lookup f_Book_leave = some ⟨oc_Book_leave, od_Book_leave, .func (PySem.W.fnOf "leave" "Book.leave" (defArgs s_Book_leave) (defBody s_Book_leave) (defScope s_Book_leave) .none kV_Book_leave dc_Book_leave pm_Book_leave an_Book_leave cd_Book_leave ct_Book_leave), sl_Book_leave⟩)
    (c_Book_leave : PySem.W.codeIn K cd_Book_leave "Book.leave" = true)
    (k_Book_leave : PySem.W.keepIn K (.ref f_Book_leave) = true)
    (a_law_signs : PySem.W.nsIn K mainGlobals "_law_signs" = some (some (.ref f_law_signs)))
    (l_law_signs : K.lookup f_law_signs = some ⟨oc_law_signs, od_law_signs, .func (PySem.W.fnOf "_law_signs" "_law_signs" (defArgs s_law_signs) (defBody s_law_signs) (defScope s_law_signs) .none kV_law_signs dc_law_signs pm_law_signs an_law_signs cd_law_signs ct_law_signs), sl_law_signs⟩)
    (c_law_signs : PySem.W.codeIn K cd_law_signs "_law_signs" = true)
    (k_law_signs : PySem.W.keepIn K (.ref f_law_signs) = true)
    (a_law_level : PySem.W.nsIn K mainGlobals "_law_level" = some (some (.ref f_law_level)))
    (l_law_level : K.lookup f_law_level = some ⟨oc_law_level, od_law_level, .func (PySem.W.fnOf "_law_level" "_law_level" (defArgs s_law_level) (defBody s_law_level) (defScope s_law_level) .none kV_law_level dc_law_level pm_law_level an_law_level cd_law_level ct_law_level), sl_law_level⟩)
    (c_law_level : PySem.W.codeIn K cd_law_level "_law_level" = true)
    (k_law_level : PySem.W.keepIn K (.ref f_law_level) = true)
    (a_law_wish : PySem.W.nsIn K mainGlobals "_law_wish" = some (some (.ref f_law_wish)))
    (l_law_wish : K.lookup f_law_wish = some ⟨oc_law_wish, od_law_wish, .func (PySem.W.fnOf "_law_wish" "_law_wish" (defArgs s_law_wish) (defBody s_law_wish) (defScope s_law_wish) .none kV_law_wish dc_law_wish pm_law_wish an_law_wish cd_law_wish ct_law_wish), sl_law_wish⟩)
    (c_law_wish : PySem.W.codeIn K cd_law_wish "_law_wish" = true)
    (k_law_wish : PySem.W.keepIn K (.ref f_law_wish) = true)
    (a_Book_collect : PySem.W.findIn K (.ref C_Book) "collect" = some (some (.ref f_Book_collect)))
    (i_Book_collect : PySem.W.isFn K (.ref f_Book_collect) = true)
    (l_Book_collect : K.lookup f_Book_collect = some ⟨oc_Book_collect, od_Book_collect, .func (PySem.W.fnOf "collect" "Book.collect" (defArgs s_Book_collect) (defBody s_Book_collect) (defScope s_Book_collect) .none kV_Book_collect dc_Book_collect pm_Book_collect an_Book_collect cd_Book_collect ct_Book_collect), sl_Book_collect⟩)
    (c_Book_collect : PySem.W.codeIn K cd_Book_collect "Book.collect" = true)
    (k_Book_collect : PySem.W.keepIn K (.ref f_Book_collect) = true)
    (a_Book_hears : PySem.W.findIn K (.ref C_Book) "hears" = some (some (.ref f_Book_hears)))
    (i_Book_hears : PySem.W.isFn K (.ref f_Book_hears) = true)
    (l_Book_hears : K.lookup f_Book_hears = some ⟨oc_Book_hears, od_Book_hears, .func (PySem.W.fnOf "hears" "Book.hears" (defArgs s_Book_hears) (defBody s_Book_hears) (defScope s_Book_hears) .none kV_Book_hears dc_Book_hears pm_Book_hears an_Book_hears cd_Book_hears ct_Book_hears), sl_Book_hears⟩)
    (c_Book_hears : PySem.W.codeIn K cd_Book_hears "Book.hears" = true)
    (k_Book_hears : PySem.W.keepIn K (.ref f_Book_hears) = true)
    (a_law : PySem.W.nsIn K mainGlobals "law" = some (some (.ref f_law)))
    (l_law : K.lookup f_law = some ⟨oc_law, od_law, .func (PySem.W.fnOf "law" "law" (defArgs s_law) (defBody s_law) (defScope s_law) .none kV_law dc_law pm_law an_law cd_law ct_law), sl_law⟩)
    (c_law : PySem.W.codeIn K cd_law "law" = true)
    (k_law : PySem.W.keepIn K (.ref f_law) = true)
    (pg_Node : PySem.W.plainGet K C_Node Str.empty = true)
    (hd_Node : PySem.W.hasDictIn K C_Node = true)
    (po_Node : PySem.W.plainOver K C_Node = true)
    (sa_Node : PySem.W.findIn K (.ref C_Node) "__setattr__" = some (some (.builtin "object.__setattr__")))
    (mk_Node : PySem.W.makesIn K C_Node = true)
    (n_Node_below : PySem.W.findIn K (.ref C_Node) "below" = some none)
    (n_Node_hearers : PySem.W.findIn K (.ref C_Node) "hearers" = some none)
    (pg_Book : PySem.W.plainGet K C_Book Str.empty = true)
    (hd_Book : PySem.W.hasDictIn K C_Book = true)
    (po_Book : PySem.W.plainOver K C_Book = true)
    (sa_Book : PySem.W.findIn K (.ref C_Book) "__setattr__" = some (some (.builtin "object.__setattr__")))
    (mk_Book : PySem.W.makesIn K C_Book = true)
    (n_Book_top : PySem.W.findIn K (.ref C_Book) "top" = some none)
    (n_Book_rows : PySem.W.findIn K (.ref C_Book) "rows" = some none)
    (x_TidingError : PySem.W.excIn K C_TidingError [.type "ValueError", .type "Exception", .type "BaseException", .type "object"] "ValueError.__new__" = true)
    (b_TidingError : PySem.W.subIn K (.ref C_TidingError) (.type "BaseException") = some true)
    (t_TidingError : PySem.W.typeIn K (.ref C_TidingError) = some (.type "type"))
    (x_BadName : PySem.W.excIn K C_BadName [.type "ValueError", .type "Exception", .type "BaseException", .type "object"] "ValueError.__new__" = true)
    (b_BadName : PySem.W.subIn K (.ref C_BadName) (.type "BaseException") = some true)
    (t_BadName : PySem.W.typeIn K (.ref C_BadName) = some (.type "type"))
    (n_all : PySem.W.nsIn K mainGlobals "all" = some none)
    (n_len : PySem.W.nsIn K mainGlobals "len" = some none)
    (n_max : PySem.W.nsIn K mainGlobals "max" = some none)
    (n_ord : PySem.W.nsIn K mainGlobals "ord" = some none)
    (n_range : PySem.W.nsIn K mainGlobals "range" = some none)
    (n_set : PySem.W.nsIn K mainGlobals "set" = some none)
    (n_sorted : PySem.W.nsIn K mainGlobals "sorted" = some none)
    (v_MOST_LEVELS : PySem.W.nsIn K mainGlobals "MOST_LEVELS" = some (some (.int 8 t_MOST_LEVELS)))
    (v_MOST_SIGNS : PySem.W.nsIn K mainGlobals "MOST_SIGNS" = some (some (.int 12 t_MOST_SIGNS)))
    (v_SMALL : PySem.W.nsIn K mainGlobals "SMALL" = some (some (.str (Str.ofString "abcdefghijklmnopqrstuvwxyz0123456789") t_SMALL))) :
    ∃ fd : FuncData, (∀ (s : Shared) (v : Value), BindsTo s fd ⟨[v], []⟩ [("script", v)]) ∧ ∀ base : Heap, K.In base → base.Ns mainGlobals mg → FnOk l.prog w K mg base (cxt true l.prog w) 16 fa fd ["script"] (spD ⟨K, mg, J⟩ 1 m_law) := by
  have e : fa = f_law := by
    have z := hfa.symm.trans (PySem.W.mg_of X G a_law)
    cases z
    rfl
  rw [e]
  have F_is_level := fun_mk (st := s_is_level) l_is_level c_is_level k_is_level
  have B_is_level := F_is_level.binds (ps := ["level"]) fun _ _ _ _ _ _ us hl => match us, hl with | [_], _ => rfl
  have F_look_hearer := fun_mk (st := s_look_hearer) l_look_hearer c_look_hearer k_look_hearer
  have B_look_hearer := F_look_hearer.binds (ps := ["hearer"]) fun _ _ _ _ _ _ us hl => match us, hl with | [_], _ => rfl
  have F_look_grade := fun_mk (st := s_look_grade) l_look_grade c_look_grade k_look_grade
  have B_look_grade := F_look_grade.binds (ps := ["grade"]) fun _ _ _ _ _ _ us hl => match us, hl with | [_], _ => rfl
  have F_Node_init := fun_mk (st := s_Node_init) l_Node_init c_Node_init k_Node_init
  have B_Node_init := F_Node_init.binds (ps := ["self"]) fun _ _ _ _ _ _ us hl => match us, hl with | [_], _ => rfl
  have F_Book_wishes := fun_mk (st := s_Book_wishes) l_Book_wishes c_Book_wishes k_Book_wishes
  have B_Book_wishes := F_Book_wishes.binds (ps := ["self", "hearer"]) fun _ _ _ _ _ _ us hl => match us, hl with | [_, _], _ => rfl
  have F_Book_size := fun_mk (st := s_Book_size) l_Book_size c_Book_size k_Book_size
  have B_Book_size := F_Book_size.binds (ps := ["self"]) fun _ _ _ _ _ _ us hl => match us, hl with | [_], _ => rfl
  have F_Book_take := fun_mk (st := s_Book_take) l_Book_take c_Book_take k_Book_take
  have B_Book_take := F_Book_take.binds (ps := ["self", "node", "found"]) fun _ _ _ _ _ _ us hl => match us, hl with | [_, _, _], _ => rfl
  have F_law_cell := fun_mk (st := s_law_cell) l_law_cell c_law_cell k_law_cell
  have B_law_cell := F_law_cell.binds (ps := ["script", "k"]) fun _ _ _ _ _ _ us hl => match us, hl with | [_, _], _ => rfl
  have F_law_is_level := fun_mk (st := s_law_is_level) l_law_is_level c_law_is_level k_law_is_level
  have B_law_is_level := F_law_is_level.binds (ps := ["level"]) fun _ _ _ _ _ _ us hl => match us, hl with | [_], _ => rfl
  have F_look_name := fun_mk (st := s_look_name) l_look_name c_look_name k_look_name
  have B_look_name := F_look_name.binds (ps := ["name"]) fun _ _ _ _ _ _ us hl => match us, hl with | [_], _ => rfl
  have F_look_wish := fun_mk (st := s_look_wish) l_look_wish c_look_wish k_look_wish
  have B_look_wish := F_look_wish.binds (ps := ["wish"]) fun _ _ _ _ _ _ us hl => match us, hl with | [_], _ => rfl
  have F_law_mix := fun_mk (st := s_law_mix) l_law_mix c_law_mix k_law_mix
  have B_law_mix := F_law_mix.binds (ps := ["script", "k"]) fun _ _ _ _ _ _ us hl => match us, hl with | [_, _], _ => rfl
  have F_law_is_wish := fun_mk (st := s_law_is_wish) l_law_is_wish c_law_is_wish k_law_is_wish
  have B_law_is_wish := F_law_is_wish.binds (ps := ["wish"]) fun _ _ _ _ _ _ us hl => match us, hl with | [_], _ => rfl
  have F_Book_init := fun_mk (st := s_Book_init) l_Book_init c_Book_init k_Book_init
  have B_Book_init := F_Book_init.binds (ps := ["self"]) fun _ _ _ _ _ _ us hl => match us, hl with | [_], _ => rfl
  have F_Book_node := fun_mk (st := s_Book_node) l_Book_node c_Book_node k_Book_node
  have B_Book_node := F_Book_node.binds (ps := ["self", "wish"]) fun _ _ _ _ _ _ us hl => match us, hl with | [_, _], _ => rfl
  have F_law_draw := fun_mk (st := s_law_draw) l_law_draw c_law_draw k_law_draw
  have B_law_draw := F_law_draw.binds (ps := ["script", "town", "many"]) fun _ _ _ _ _ _ us hl => match us, hl with | [_, _, _], _ => rfl
  have F_Book_put := fun_mk (st := s_Book_put) l_Book_put c_Book_put k_Book_put
  have B_Book_put := F_Book_put.binds (ps := ["self", "hearer", "wish", "grade"]) fun _ _ _ _ _ _ us hl => match us, hl with | [_, _, _, _], _ => rfl
  have F_Book_drop := fun_mk (st := s_Book_drop) l_Book_drop c_Book_drop k_Book_drop
  have B_Book_drop := F_Book_drop.binds (ps := ["self", "hearer", "wish"]) fun _ _ _ _ _ _ us hl => match us, hl with | [_, _, _], _ => rfl
  have F_law_pick := fun_mk (st := s_law_pick) l_law_pick c_law_pick k_law_pick
  have B_law_pick := F_law_pick.binds (ps := ["script", "town", "some"]) fun _ _ _ _ _ _ us hl => match us, hl with | [_, _, _], _ => rfl
  have F_Book_leave := fun_mk (st := s_Book_leave) l_Book_leave c_Book_leave k_Book_leave
  have B_Book_leave := F_Book_leave.binds (ps := ["self", "hearer"]) fun _ _ _ _ _ _ us hl => match us, hl with | [_, _], _ => rfl
  have F_law_signs := fun_mk (st := s_law_signs) l_law_signs c_law_signs k_law_signs
  have B_law_signs := F_law_signs.binds (ps := ["script", "town", "many", "also"]) fun _ _ _ _ _ _ us hl => match us, hl with | [_, _, _, _], _ => rfl
  have F_law_level := fun_mk (st := s_law_level) l_law_level c_law_level k_law_level
  have B_law_level := F_law_level.binds (ps := ["script", "town"]) fun _ _ _ _ _ _ us hl => match us, hl with | [_, _], _ => rfl
  have F_law_wish := fun_mk (st := s_law_wish) l_law_wish c_law_wish k_law_wish
  have B_law_wish := F_law_wish.binds (ps := ["script", "town", "levels"]) fun _ _ _ _ _ _ us hl => match us, hl with | [_, _, _], _ => rfl
  have F_Book_collect := fun_mk (st := s_Book_collect) l_Book_collect c_Book_collect k_Book_collect
  have B_Book_collect := F_Book_collect.binds (ps := ["self", "node", "levels", "is_first", "found"]) fun _ _ _ _ _ _ us hl => match us, hl with | [_, _, _, _, _], _ => rfl
  have F_Book_hears := fun_mk (st := s_Book_hears) l_Book_hears c_Book_hears k_Book_hears
  have B_Book_hears := F_Book_hears.binds (ps := ["self", "name"]) fun _ _ _ _ _ _ us hl => match us, hl with | [_, _], _ => rfl
  have F_law := fun_mk (st := s_law) l_law c_law k_law
  have B_law := F_law.binds (ps := ["script"]) fun _ _ _ _ _ _ us hl => match us, hl with | [_], _ => rfl
  have gC_Node := PySem.W.mg_of X G aC_Node
  have K_Node : Cls K C_Node := ⟨pg_Node, hd_Node, po_Node, sa_Node⟩
  have gC_Book := PySem.W.mg_of X G aC_Book
  have K_Book : Cls K C_Book := ⟨pg_Book, hd_Book, po_Book, sa_Book⟩
  have T : Txt K mg { f_is_level := f_is_level, f_look_hearer := f_look_hearer, f_look_grade := f_look_grade, f_Node_init := f_Node_init, f_Book_wishes := f_Book_wishes, f_Book_size := f_Book_size, f_Book_take := f_Book_take, f_law_cell := f_law_cell, f_law_is_level := f_law_is_level, f_look_name := f_look_name, f_look_wish := f_look_wish, f_law_mix := f_law_mix, f_law_is_wish := f_law_is_wish, f_Book_init := f_Book_init, f_Book_node := f_Book_node, f_law_draw := f_law_draw, f_Book_put := f_Book_put, f_Book_drop := f_Book_drop, f_law_pick := f_law_pick, f_Book_leave := f_Book_leave, f_law_signs := f_law_signs, f_law_level := f_law_level, f_law_wish := f_law_wish, f_Book_collect := f_Book_collect, f_Book_hears := f_Book_hears, f_law := f_law, C_Node := C_Node, C_Book := C_Book, C_TidingError := C_TidingError, C_BadName := C_BadName, t_MOST_LEVELS := t_MOST_LEVELS, t_MOST_SIGNS := t_MOST_SIGNS, t_SMALL := t_SMALL } := { d_is_level := ⟨_, F_is_level, B_is_level⟩, g_is_level := PySem.W.mg_of X G a_is_level, k_is_level := k_is_level, d_look_hearer := ⟨_, F_look_hearer, B_look_hearer⟩, g_look_hearer := PySem.W.mg_of X G a_look_hearer, k_look_hearer := k_look_hearer, d_look_grade := ⟨_, F_look_grade, B_look_grade⟩, g_look_grade := PySem.W.mg_of X G a_look_grade, k_look_grade := k_look_grade, d_Node_init := ⟨_, F_Node_init, B_Node_init⟩, d_Book_wishes := ⟨_, F_Book_wishes, B_Book_wishes⟩, d_Book_size := ⟨_, F_Book_size, B_Book_size⟩, d_Book_take := ⟨_, F_Book_take, B_Book_take⟩, d_law_cell := ⟨_, F_law_cell, B_law_cell⟩, g_law_cell := PySem.W.mg_of X G a_law_cell, k_law_cell := k_law_cell, d_law_is_level := ⟨_, F_law_is_level, B_law_is_level⟩, g_law_is_level := PySem.W.mg_of X G a_law_is_level, k_law_is_level := k_law_is_level, d_look_name := ⟨_, F_look_name, B_look_name⟩, g_look_name := PySem.W.mg_of X G a_look_name, k_look_name := k_look_name, d_look_wish := ⟨_, F_look_wish, B_look_wish⟩, g_look_wish := PySem.W.mg_of X G a_look_wish, k_look_wish := k_look_wish, d_law_mix := ⟨_, F_law_mix, B_law_mix⟩, g_law_mix := PySem.W.mg_of X G a_law_mix, k_law_mix := k_law_mix, d_law_is_wish := ⟨_, F_law_is_wish, B_law_is_wish⟩, g_law_is_wish := PySem.W.mg_of X G a_law_is_wish, k_law_is_wish := k_law_is_wish, d_Book_init := ⟨_, F_Book_init, B_Book_init⟩, d_Book_node := ⟨_, F_Book_node, B_Book_node⟩, d_law_draw := ⟨_, F_law_draw, B_law_draw⟩, g_law_draw := PySem.W.mg_of X G a_law_draw, k_law_draw := k_law_draw, d_Book_put := ⟨_, F_Book_put, B_Book_put⟩, d_Book_drop := ⟨_, F_Book_drop, B_Book_drop⟩, d_law_pick := ⟨_, F_law_pick, B_law_pick⟩, g_law_pick := PySem.W.mg_of X G a_law_pick, k_law_pick := k_law_pick, d_Book_leave := ⟨_, F_Book_leave, B_Book_leave⟩, d_law_signs := ⟨_, F_law_signs, B_law_signs⟩, g_law_signs := PySem.W.mg_of X G a_law_signs, k_law_signs := k_law_signs, d_law_level := ⟨_, F_law_level, B_law_level⟩, g_law_level := PySem.W.mg_of X G a_law_level, k_law_level := k_law_level, d_law_wish := ⟨_, F_law_wish, B_law_wish⟩, g_law_wish := PySem.W.mg_of X G a_law_wish, k_law_wish := k_law_wish, d_Book_collect := ⟨_, F_Book_collect, B_Book_collect⟩, d_Book_hears := ⟨_, F_Book_hears, B_Book_hears⟩, d_law := ⟨_, F_law, B_law⟩, g_law := PySem.W.mg_of X G a_law, k_law := k_law, a_Node_below := ⟨rfl, by decide +kernel, fun C h => by have e := h.symm.trans gC_Node; cases e; exact ⟨K_Node, n_Node_below⟩⟩, a_Node_hearers := ⟨rfl, by decide +kernel, fun C h => by have e := h.symm.trans gC_Node; cases e; exact ⟨K_Node, n_Node_hearers⟩⟩, mk_Node := ⟨gC_Node, ⟨mk_Node, a_Node_init, i_Node_init, kC_Node⟩, by decide⟩, a_Book_top := ⟨rfl, by decide +kernel, fun C h => by have e := h.symm.trans gC_Book; cases e; exact ⟨K_Book, n_Book_top⟩⟩, a_Book_rows := ⟨rfl, by decide +kernel, fun C h => by have e := h.symm.trans gC_Book; cases e; exact ⟨K_Book, n_Book_rows⟩⟩, mk_Book := ⟨gC_Book, ⟨mk_Book, a_Book_init, i_Book_init, kC_Book⟩, by decide⟩, me_Book_wishes := ⟨gC_Book, by decide +kernel, K_Book, ⟨a_Book_wishes, i_Book_wishes, k_Book_wishes⟩⟩, me_Book_size := ⟨gC_Book, by decide +kernel, K_Book, ⟨a_Book_size, i_Book_size, k_Book_size⟩⟩, me_Book_take := ⟨gC_Book, by decide +kernel, K_Book, ⟨a_Book_take, i_Book_take, k_Book_take⟩⟩, me_Book_node := ⟨gC_Book, by decide +kernel, K_Book, ⟨a_Book_node, i_Book_node, k_Book_node⟩⟩, me_Book_put := ⟨gC_Book, by decide +kernel, K_Book, ⟨a_Book_put, i_Book_put, k_Book_put⟩⟩, me_Book_drop := ⟨gC_Book, by decide +kernel, K_Book, ⟨a_Book_drop, i_Book_drop, k_Book_drop⟩⟩, me_Book_leave := ⟨gC_Book, by decide +kernel, K_Book, ⟨a_Book_leave, i_Book_leave, k_Book_leave⟩⟩, me_Book_collect := ⟨gC_Book, by decide +kernel, K_Book, ⟨a_Book_collect, i_Book_collect, k_Book_collect⟩⟩, me_Book_hears := ⟨gC_Book, by decide +kernel, K_Book, ⟨a_Book_hears, i_Book_hears, k_Book_hears⟩⟩, x_TidingError := x_TidingError, gc_TidingError := PySem.W.mg_of X G aC_TidingError, kc_TidingError := kC_TidingError, b_TidingError := b_TidingError, t_TidingError := t_TidingError, x_BadName := x_BadName, gc_BadName := PySem.W.mg_of X G aC_BadName, kc_BadName := kC_BadName, b_BadName := b_BadName, t_BadName := t_BadName, n_all := PySem.W.mg_none_of X G n_all, n_len := PySem.W.mg_none_of X G n_len, n_max := PySem.W.mg_none_of X G n_max, n_ord := PySem.W.mg_none_of X G n_ord, n_range := PySem.W.mg_none_of X G n_range, n_set := PySem.W.mg_none_of X G n_set, n_sorted := PySem.W.mg_none_of X G n_sorted, c_MOST_LEVELS := PySem.W.mg_of X G v_MOST_LEVELS, c_MOST_SIGNS := PySem.W.mg_of X G v_MOST_SIGNS, c_SMALL := PySem.W.mg_of X G v_SMALL }
  exact ⟨PySem.W.fnOf "law" "law" (defArgs s_law) (defBody s_law) (defScope s_law) .none kV_law dc_law pm_law an_law cd_law ct_law, fun s v => .of_eq rfl, fun base _ _ => fn_law T F_law⟩
def spW (K : PySem.W.Frag) : Sp := fun vs H Q E => ∀ mg, spD ⟨K, mg, J⟩ 1 m_law vs H Q E
theorem walk (hlaw : ∀ ns : List Int, ns.length ≤ 63 → ∃ s, m_law [.lsk (ns.map .int)] [] = .ok (.bl true) s) {l : PySem.W.OpenLaw} {q : Program} {loose : List Str} {XP : (Str → Option Value) → Heap → Prop} {YP : World → Heap → Prop} {d : DefRec} {K : Params → PySem.W.Frag} (hn : l.most = some 63) (hdf : d.params.defaults = [])
    (hY : ∀ (w : World) (h : Heap), YP w h → (K w.params).In h)
    (F : ∀ (w : World) (mg : Str → Option Value) (fa : Addr) (h : Heap), (K w.params).In h → h.Ns mainGlobals mg → mg d.name = some (.ref fa) →
      ∃ fd : FuncData, (∀ (s : Shared) (u : Value), BindsTo s fd ⟨[u], []⟩ [("script", u)]) ∧ ∀ base : Heap, (K w.params).In base → base.Ns mainGlobals mg → FnOk l.prog w (K w.params) mg base (cxt true l.prog w) 16 fa fd ["script"] (spD ⟨K w.params, mg, J⟩ 1 m_law)) :
    PySem.W.WalkO q loose XP YP l.row.toRowW d [] (fun f vs => PySem.call f vs) :=
  L2.walk_of (n := 63) (k := 16) (x := "script") (CX := fun w => cxt true l.prog w) (sp := fun w => spW (K w.params)) hn (by decide) hdf ⟨rfl, by decide, by decide⟩ hY (fun w mg fa h kx hg hm => by
      obtain ⟨fd, h1, h2⟩ := F w mg fa h kx hg hm
      exact ⟨fd, h1, fun base hb hgb => (h2 base hb hgb).imp fun vs H Q E hs => hs mg⟩) (fun w H a ns hl _ hS mg => law_sp hlaw hl hS) fun w H s e s' h => by
    obtain ⟨_, _, _, _, _, _, _, _, _, _, _, _, z⟩ := h
    exact z
end Tx
namespace Tx
open PySem L2 Pd
/-! ### texts that are written -/
theorem t_slash : Str.ofString "/" = mkS [47] := by decide +kernel
theorem t_hash : Str.ofString "#" = mkS [35] := by decide +kernel
theorem t_plus : Str.ofString "+" = mkS [43] := by decide +kernel
theorem t_nil : Str.ofString "" = mkS [] := by decide +kernel
theorem t_bad : Str.ofString "+#/" = mkS [43, 35, 47] := by decide +kernel
theorem t_dollar : Str.ofString "$" = mkS [36] := by decide +kernel
theorem t_a : Str.ofString "a" = mkS [97] := by decide +kernel
/-! ### names and wishes, plainly -/
def sgn (c : Nat) : Bool := 32 ≤ c && c < 127 && c != 37 && !decide (c ∈ [43, 35, 47])
def gl (l : List Nat) : Bool := decide (l.length ≤ 12) && l.all sgn
def isName (l : List Nat) : Bool := !(l == []) && decide ((splC 47 l).length ≤ 8) && (splC 47 l).all gl
def plain (ls : List (List Nat)) : List (List Nat) := if ls.getLast? = some [35] then ls.dropLast else ls
def gw (l : List Nat) : Bool := l == [43] || gl l
def isWish (l : List Nat) : Bool := !(l == []) && decide ((splC 47 l).length ≤ 8) && (plain (splC 47 l)).all gw
theorem ev_is_level (l : List Nat) (s : Sto) : m_is_level [.str (mkS l)] s = .ok (.bl (gl l)) s := by
  by_cases h : l.length ≤ 12
  · have h1 : ¬ ((12 : Int) < l.length) := by omega
    have e3 : ∀ env1 : En, True → lcGo (gN 1) Pd.tYes (eAnd (eChain dLe dLt (eC (.int 32)) (eUn dOrd (eVar 1)) (eC (.int 127))) (eAnd (eOp dNe (eUn dOrd (eVar 1)) (eC (.int 37))) (eOp dNotIn (eVar 1) (eC (.str (mkS [43, 35, 47])))))) (fun _ => True) (l.map fun c => .str (mkS [c])) [some (.str (mkS l)), none] s = .ok (l.map fun c => .bl (sgn c)) s := fun _ _ => by
      refine lc_map trivial fun c _ => ⟨[some (.str (mkS l)), some (.str (mkS [c]))], rfl, rfl, ?_⟩
      by_cases h2 : (32 : Int) ≤ c
      · by_cases h3 : (c : Int) < 127
        · by_cases h4 : (c : Int) = 37
          · have e : c = 37 := by omega
            subst e
            rfl
          · have h5 : ((c : Int) == 37) = false := by simpa using h4
            simp only [fnOf, ev_seq, ev_asg, sBnd_def, ev_op, ev_un, bnd_def, ev_call, evs_cons, evs_nil, ev_var, ev_c, ev_if, ev_next, ev_expr, ev_tru, ev_bl, ev_and, ev_or, ev_not, ev_yes, ev_andE, ev_orE, ev_notE, ev_ifE, ev_chain, ofB_some, ofO_some, ofO_none, truD_non, truD_bl, truD_int, truD_str, truD_tup, truD_lst, truD_lsk, ev_tup, ev_lst, ev_nwF, ev_nwM, ev_meth, ev_make, ev_fld, ev_setF, ev_bm1, asQ_tup, asQ_lst, asQ_lsk, asL_lst, asL_lsk, dLen_tup, dLen_lst, dLen_lsk, dLen_str, dIx_tup, dIx_lst, dIx_lsk, dIx_str, dAdd_int, dNeg_int, isN_def, notN_def, isNon_non, isNon_int, isNon_bl, isNon_str, isNon_tup, isNon_lst, isNon_obj, isNon_exc, dEq_int, dNe_int, dEq_str, dNe_str, dEq_bl, atI_zero, atI_one, atI_2, atI_3, atI_4, atI_5, atI_6, atI_7, atI_8, atI_9, atI_10, atI_11, atI_12, atI_m1, ev_gT, setAll_nil, setAll_cons, iOp_int, ev_gN, ev_ret, List.map_cons, List.map_nil, List.length_cons, List.length_nil, rep_zero, rep_succ, List.cons_append, List.nil_append, List.getElem?_cons_zero, List.getElem?_cons_succ, List.set_cons_zero, List.set_cons_succ, Nat.sub_self, Nat.reduceAdd, Nat.reduceSub, Option.map_some, Option.bind_some, if_true, Bool.not_true, Bool.not_false, Bool.false_eq_true, if_false, decide_true, decide_false, Int.reduceBEq, Int.reduceEq, Int.reduceLT, Int.reduceLE, Int.reduceNeg, Int.reduceAdd, Int.reduceSub, Int.reduceMul, Int.reduceToNat, Nat.reduceLT, Nat.reduceLeDiff, beq_self_eq_true, reduceIte, eq_self, Int.reduceNe, Int.reduceBNe, not_true_eq_false, not_false_eq_true, true_and, and_true, true_or, or_true, false_or, or_false, and_false, false_and, decide_eq_true_eq, Bool.true_and, Bool.and_true, Bool.false_and, Bool.and_false, Bool.true_or, Bool.or_true, Bool.false_or, Bool.or_false, dOrd_mk, dLe, dLt, h2, h3, h5, dNotIn_sign]
            have h6 : sgn c = (!decide (c ∈ [43, 35, 47])) := by
              unfold sgn
              have a1 : decide (32 ≤ c) = true := decide_eq_true (by omega)
              have a2 : decide (c < 127) = true := decide_eq_true (by omega)
              have a3 : (c != 37) = true := by simp; omega
              rw [a1, a2, a3]; rfl
            rw [h6]
        · simp only [fnOf, ev_seq, ev_asg, sBnd_def, ev_op, ev_un, bnd_def, ev_call, evs_cons, evs_nil, ev_var, ev_c, ev_if, ev_next, ev_expr, ev_tru, ev_bl, ev_and, ev_or, ev_not, ev_yes, ev_andE, ev_orE, ev_notE, ev_ifE, ev_chain, ofB_some, ofO_some, ofO_none, truD_non, truD_bl, truD_int, truD_str, truD_tup, truD_lst, truD_lsk, ev_tup, ev_lst, ev_nwF, ev_nwM, ev_meth, ev_make, ev_fld, ev_setF, ev_bm1, asQ_tup, asQ_lst, asQ_lsk, asL_lst, asL_lsk, dLen_tup, dLen_lst, dLen_lsk, dLen_str, dIx_tup, dIx_lst, dIx_lsk, dIx_str, dAdd_int, dNeg_int, isN_def, notN_def, isNon_non, isNon_int, isNon_bl, isNon_str, isNon_tup, isNon_lst, isNon_obj, isNon_exc, dEq_int, dNe_int, dEq_str, dNe_str, dEq_bl, atI_zero, atI_one, atI_2, atI_3, atI_4, atI_5, atI_6, atI_7, atI_8, atI_9, atI_10, atI_11, atI_12, atI_m1, ev_gT, setAll_nil, setAll_cons, iOp_int, ev_gN, ev_ret, List.map_cons, List.map_nil, List.length_cons, List.length_nil, rep_zero, rep_succ, List.cons_append, List.nil_append, List.getElem?_cons_zero, List.getElem?_cons_succ, List.set_cons_zero, List.set_cons_succ, Nat.sub_self, Nat.reduceAdd, Nat.reduceSub, Option.map_some, Option.bind_some, if_true, Bool.not_true, Bool.not_false, Bool.false_eq_true, if_false, decide_true, decide_false, Int.reduceBEq, Int.reduceEq, Int.reduceLT, Int.reduceLE, Int.reduceNeg, Int.reduceAdd, Int.reduceSub, Int.reduceMul, Int.reduceToNat, Nat.reduceLT, Nat.reduceLeDiff, beq_self_eq_true, reduceIte, eq_self, Int.reduceNe, Int.reduceBNe, not_true_eq_false, not_false_eq_true, true_and, and_true, true_or, or_true, false_or, or_false, and_false, false_and, decide_eq_true_eq, Bool.true_and, Bool.and_true, Bool.false_and, Bool.and_false, Bool.true_or, Bool.or_true, Bool.false_or, Bool.or_false, dOrd_mk, dLe, dLt, h2, h3, dNotIn_sign]
          have h6 : sgn c = false := by
            unfold sgn
            have a2 : decide (c < 127) = false := decide_eq_false (by omega)
            rw [a2]; simp
          rw [h6]
      · simp only [fnOf, ev_seq, ev_asg, sBnd_def, ev_op, ev_un, bnd_def, ev_call, evs_cons, evs_nil, ev_var, ev_c, ev_if, ev_next, ev_expr, ev_tru, ev_bl, ev_and, ev_or, ev_not, ev_yes, ev_andE, ev_orE, ev_notE, ev_ifE, ev_chain, ofB_some, ofO_some, ofO_none, truD_non, truD_bl, truD_int, truD_str, truD_tup, truD_lst, truD_lsk, ev_tup, ev_lst, ev_nwF, ev_nwM, ev_meth, ev_make, ev_fld, ev_setF, ev_bm1, asQ_tup, asQ_lst, asQ_lsk, asL_lst, asL_lsk, dLen_tup, dLen_lst, dLen_lsk, dLen_str, dIx_tup, dIx_lst, dIx_lsk, dIx_str, dAdd_int, dNeg_int, isN_def, notN_def, isNon_non, isNon_int, isNon_bl, isNon_str, isNon_tup, isNon_lst, isNon_obj, isNon_exc, dEq_int, dNe_int, dEq_str, dNe_str, dEq_bl, atI_zero, atI_one, atI_2, atI_3, atI_4, atI_5, atI_6, atI_7, atI_8, atI_9, atI_10, atI_11, atI_12, atI_m1, ev_gT, setAll_nil, setAll_cons, iOp_int, ev_gN, ev_ret, List.map_cons, List.map_nil, List.length_cons, List.length_nil, rep_zero, rep_succ, List.cons_append, List.nil_append, List.getElem?_cons_zero, List.getElem?_cons_succ, List.set_cons_zero, List.set_cons_succ, Nat.sub_self, Nat.reduceAdd, Nat.reduceSub, Option.map_some, Option.bind_some, if_true, Bool.not_true, Bool.not_false, Bool.false_eq_true, if_false, decide_true, decide_false, Int.reduceBEq, Int.reduceEq, Int.reduceLT, Int.reduceLE, Int.reduceNeg, Int.reduceAdd, Int.reduceSub, Int.reduceMul, Int.reduceToNat, Nat.reduceLT, Nat.reduceLeDiff, beq_self_eq_true, reduceIte, eq_self, Int.reduceNe, Int.reduceBNe, not_true_eq_false, not_false_eq_true, true_and, and_true, true_or, or_true, false_or, or_false, and_false, false_and, decide_eq_true_eq, Bool.true_and, Bool.and_true, Bool.false_and, Bool.and_false, Bool.true_or, Bool.or_true, Bool.false_or, Bool.or_false, dOrd_mk, dLe, dLt, h2, dNotIn_sign]
        have h6 : sgn c = false := by
          unfold sgn
          have a2 : decide (32 ≤ c) = false := decide_eq_false (by omega)
          rw [a2]; simp
        rw [h6]
    have e4 := e3 [] trivial
    have hg : gl l = l.all sgn := by unfold gl; rw [decide_eq_true h, Bool.true_and]
    unfold m_is_level b_is_level
    simp only [fnOf, ev_seq, ev_asg, sBnd_def, ev_op, ev_un, bnd_def, ev_call, evs_cons, evs_nil, ev_var, ev_c, ev_if, ev_next, ev_expr, ev_tru, ev_bl, ev_and, ev_or, ev_not, ev_yes, ev_andE, ev_orE, ev_notE, ev_ifE, ev_chain, ofB_some, ofO_some, ofO_none, truD_non, truD_bl, truD_int, truD_str, truD_tup, truD_lst, truD_lsk, ev_tup, ev_lst, ev_nwF, ev_nwM, ev_meth, ev_make, ev_fld, ev_setF, ev_bm1, asQ_tup, asQ_lst, asQ_lsk, asL_lst, asL_lsk, dLen_tup, dLen_lst, dLen_lsk, dLen_str, dIx_tup, dIx_lst, dIx_lsk, dIx_str, dAdd_int, dNeg_int, isN_def, notN_def, isNon_non, isNon_int, isNon_bl, isNon_str, isNon_tup, isNon_lst, isNon_obj, isNon_exc, dEq_int, dNe_int, dEq_str, dNe_str, dEq_bl, atI_zero, atI_one, atI_2, atI_3, atI_4, atI_5, atI_6, atI_7, atI_8, atI_9, atI_10, atI_11, atI_12, atI_m1, ev_gT, setAll_nil, setAll_cons, iOp_int, ev_gN, ev_ret, List.map_cons, List.map_nil, List.length_cons, List.length_nil, rep_zero, rep_succ, List.cons_append, List.nil_append, List.getElem?_cons_zero, List.getElem?_cons_succ, List.set_cons_zero, List.set_cons_succ, Nat.sub_self, Nat.reduceAdd, Nat.reduceSub, Option.map_some, Option.bind_some, if_true, Bool.not_true, Bool.not_false, Bool.false_eq_true, if_false, decide_true, decide_false, Int.reduceBEq, Int.reduceEq, Int.reduceLT, Int.reduceLE, Int.reduceNeg, Int.reduceAdd, Int.reduceSub, Int.reduceMul, Int.reduceToNat, Nat.reduceLT, Nat.reduceLeDiff, beq_self_eq_true, reduceIte, eq_self, Int.reduceNe, Int.reduceBNe, not_true_eq_false, not_false_eq_true, true_and, and_true, true_or, or_true, false_or, or_false, and_false, false_and, decide_eq_true_eq, Bool.true_and, Bool.and_true, Bool.false_and, Bool.and_false, Bool.true_or, Bool.or_true, Bool.false_or, Bool.or_false, mkS_len, dGt, h1, t_bad, ev_lc, ev_iSeq, signs_mk, wipeD_nil, wipeD_cons, bndN, e4, dAll_map, hg]
  · have h1 : (12 : Int) < l.length := by omega
    have hg : gl l = false := by unfold gl; rw [decide_eq_false h, Bool.false_and]
    unfold m_is_level b_is_level
    simp only [fnOf, ev_seq, ev_asg, sBnd_def, ev_op, ev_un, bnd_def, ev_call, evs_cons, evs_nil, ev_var, ev_c, ev_if, ev_next, ev_expr, ev_tru, ev_bl, ev_and, ev_or, ev_not, ev_yes, ev_andE, ev_orE, ev_notE, ev_ifE, ev_chain, ofB_some, ofO_some, ofO_none, truD_non, truD_bl, truD_int, truD_str, truD_tup, truD_lst, truD_lsk, ev_tup, ev_lst, ev_nwF, ev_nwM, ev_meth, ev_make, ev_fld, ev_setF, ev_bm1, asQ_tup, asQ_lst, asQ_lsk, asL_lst, asL_lsk, dLen_tup, dLen_lst, dLen_lsk, dLen_str, dIx_tup, dIx_lst, dIx_lsk, dIx_str, dAdd_int, dNeg_int, isN_def, notN_def, isNon_non, isNon_int, isNon_bl, isNon_str, isNon_tup, isNon_lst, isNon_obj, isNon_exc, dEq_int, dNe_int, dEq_str, dNe_str, dEq_bl, atI_zero, atI_one, atI_2, atI_3, atI_4, atI_5, atI_6, atI_7, atI_8, atI_9, atI_10, atI_11, atI_12, atI_m1, ev_gT, setAll_nil, setAll_cons, iOp_int, ev_gN, ev_ret, List.map_cons, List.map_nil, List.length_cons, List.length_nil, rep_zero, rep_succ, List.cons_append, List.nil_append, List.getElem?_cons_zero, List.getElem?_cons_succ, List.set_cons_zero, List.set_cons_succ, Nat.sub_self, Nat.reduceAdd, Nat.reduceSub, Option.map_some, Option.bind_some, if_true, Bool.not_true, Bool.not_false, Bool.false_eq_true, if_false, decide_true, decide_false, Int.reduceBEq, Int.reduceEq, Int.reduceLT, Int.reduceLE, Int.reduceNeg, Int.reduceAdd, Int.reduceSub, Int.reduceMul, Int.reduceToNat, Nat.reduceLT, Nat.reduceLeDiff, beq_self_eq_true, reduceIte, eq_self, Int.reduceNe, Int.reduceBNe, not_true_eq_false, not_false_eq_true, true_and, and_true, true_or, or_true, false_or, or_false, and_false, false_and, decide_eq_true_eq, Bool.true_and, Bool.and_true, Bool.false_and, Bool.and_false, Bool.true_or, Bool.or_true, Bool.false_or, Bool.or_false, mkS_len, dGt, h1, hg]
theorem ev_look_name (l : List Nat) (s : Sto) : m_look_name [.str (mkS l)] s = if isName l = true then .ok .non s else .exc 3 s := by
  have e3 : lcGo (gN 2) Pd.tYes (eCall m_is_level [eVar 2]) (fun _ => True) (lvs (splC 47 l)) [some (.str (mkS l)), some (.lst (lvs (splC 47 l))), none] s = .ok ((splC 47 l).map fun p => .bl (gl p)) s :=
    by
      refine lc_map ?_ fun p _ => ⟨[some (.str (mkS l)), some (.lst (lvs (splC 47 l))), some (.str (mkS p))], rfl, rfl, ?_⟩
      · trivial
      · simp only [fnOf, ev_seq, ev_asg, sBnd_def, ev_op, ev_un, bnd_def, ev_call, evs_cons, evs_nil, ev_var, ev_c, ev_if, ev_next, ev_expr, ev_tru, ev_bl, ev_and, ev_or, ev_not, ev_yes, ev_andE, ev_orE, ev_notE, ev_ifE, ev_chain, ofB_some, ofO_some, ofO_none, truD_non, truD_bl, truD_int, truD_str, truD_tup, truD_lst, truD_lsk, ev_tup, ev_lst, ev_nwF, ev_nwM, ev_meth, ev_make, ev_fld, ev_setF, ev_bm1, asQ_tup, asQ_lst, asQ_lsk, asL_lst, asL_lsk, dLen_tup, dLen_lst, dLen_lsk, dLen_str, dIx_tup, dIx_lst, dIx_lsk, dIx_str, dAdd_int, dNeg_int, isN_def, notN_def, isNon_non, isNon_int, isNon_bl, isNon_str, isNon_tup, isNon_lst, isNon_obj, isNon_exc, dEq_int, dNe_int, dEq_str, dNe_str, dEq_bl, atI_zero, atI_one, atI_2, atI_3, atI_4, atI_5, atI_6, atI_7, atI_8, atI_9, atI_10, atI_11, atI_12, atI_m1, ev_gT, setAll_nil, setAll_cons, iOp_int, ev_gN, ev_ret, List.map_cons, List.map_nil, List.length_cons, List.length_nil, rep_zero, rep_succ, List.cons_append, List.nil_append, List.getElem?_cons_zero, List.getElem?_cons_succ, List.set_cons_zero, List.set_cons_succ, Nat.sub_self, Nat.reduceAdd, Nat.reduceSub, Option.map_some, Option.bind_some, if_true, Bool.not_true, Bool.not_false, Bool.false_eq_true, if_false, decide_true, decide_false, Int.reduceBEq, Int.reduceEq, Int.reduceLT, Int.reduceLE, Int.reduceNeg, Int.reduceAdd, Int.reduceSub, Int.reduceMul, Int.reduceToNat, Nat.reduceLT, Nat.reduceLeDiff, beq_self_eq_true, reduceIte, eq_self, Int.reduceNe, Int.reduceBNe, not_true_eq_false, not_false_eq_true, true_and, and_true, true_or, or_true, false_or, or_false, and_false, false_and, decide_eq_true_eq, Bool.true_and, Bool.and_true, Bool.false_and, Bool.and_false, Bool.true_or, Bool.or_true, Bool.false_or, Bool.or_false, ev_is_level]
  unfold m_look_name b_look_name
  by_cases h1 : (l == []) = true
  · have hn : isName l = false := by unfold isName; rw [h1]; rfl
    simp only [fnOf, ev_seq, ev_asg, sBnd_def, ev_op, ev_un, bnd_def, ev_call, evs_cons, evs_nil, ev_var, ev_c, ev_if, ev_next, ev_expr, ev_tru, ev_bl, ev_and, ev_or, ev_not, ev_yes, ev_andE, ev_orE, ev_notE, ev_ifE, ev_chain, ofB_some, ofO_some, ofO_none, truD_non, truD_bl, truD_int, truD_str, truD_tup, truD_lst, truD_lsk, ev_tup, ev_lst, ev_nwF, ev_nwM, ev_meth, ev_make, ev_fld, ev_setF, ev_bm1, asQ_tup, asQ_lst, asQ_lsk, asL_lst, asL_lsk, dLen_tup, dLen_lst, dLen_lsk, dLen_str, dIx_tup, dIx_lst, dIx_lsk, dIx_str, dAdd_int, dNeg_int, isN_def, notN_def, isNon_non, isNon_int, isNon_bl, isNon_str, isNon_tup, isNon_lst, isNon_obj, isNon_exc, dEq_int, dNe_int, dEq_str, dNe_str, dEq_bl, atI_zero, atI_one, atI_2, atI_3, atI_4, atI_5, atI_6, atI_7, atI_8, atI_9, atI_10, atI_11, atI_12, atI_m1, ev_gT, setAll_nil, setAll_cons, iOp_int, ev_gN, ev_ret, List.map_cons, List.map_nil, List.length_cons, List.length_nil, rep_zero, rep_succ, List.cons_append, List.nil_append, List.getElem?_cons_zero, List.getElem?_cons_succ, List.set_cons_zero, List.set_cons_succ, Nat.sub_self, Nat.reduceAdd, Nat.reduceSub, Option.map_some, Option.bind_some, if_true, Bool.not_true, Bool.not_false, Bool.false_eq_true, if_false, decide_true, decide_false, Int.reduceBEq, Int.reduceEq, Int.reduceLT, Int.reduceLE, Int.reduceNeg, Int.reduceAdd, Int.reduceSub, Int.reduceMul, Int.reduceToNat, Nat.reduceLT, Nat.reduceLeDiff, beq_self_eq_true, reduceIte, eq_self, Int.reduceNe, Int.reduceBNe, not_true_eq_false, not_false_eq_true, true_and, and_true, true_or, or_true, false_or, or_false, and_false, false_and, decide_eq_true_eq, Bool.true_and, Bool.and_true, Bool.false_and, Bool.and_false, Bool.true_or, Bool.or_true, Bool.false_or, Bool.or_false, t_slash, t_nil, isStr_str, dSplit_mk, mkS_beq, h1, ev_raise, hn]
  · have h1' : (l == []) = false := by simpa using h1
    by_cases h2 : (splC 47 l).length ≤ 8
    · have g2 : ¬ ((8 : Int) < (splC 47 l).length) := by omega
      have hn : isName l = (splC 47 l).all gl := by unfold isName; rw [h1', decide_eq_true h2]; rfl
      cases hq : (splC 47 l).all gl with
      | true => simp only [fnOf, ev_seq, ev_asg, sBnd_def, ev_op, ev_un, bnd_def, ev_call, evs_cons, evs_nil, ev_var, ev_c, ev_if, ev_next, ev_expr, ev_tru, ev_bl, ev_and, ev_or, ev_not, ev_yes, ev_andE, ev_orE, ev_notE, ev_ifE, ev_chain, ofB_some, ofO_some, ofO_none, truD_non, truD_bl, truD_int, truD_str, truD_tup, truD_lst, truD_lsk, ev_tup, ev_lst, ev_nwF, ev_nwM, ev_meth, ev_make, ev_fld, ev_setF, ev_bm1, asQ_tup, asQ_lst, asQ_lsk, asL_lst, asL_lsk, dLen_tup, dLen_lst, dLen_lsk, dLen_str, dIx_tup, dIx_lst, dIx_lsk, dIx_str, dAdd_int, dNeg_int, isN_def, notN_def, isNon_non, isNon_int, isNon_bl, isNon_str, isNon_tup, isNon_lst, isNon_obj, isNon_exc, dEq_int, dNe_int, dEq_str, dNe_str, dEq_bl, atI_zero, atI_one, atI_2, atI_3, atI_4, atI_5, atI_6, atI_7, atI_8, atI_9, atI_10, atI_11, atI_12, atI_m1, ev_gT, setAll_nil, setAll_cons, iOp_int, ev_gN, ev_ret, List.map_cons, List.map_nil, List.length_cons, List.length_nil, rep_zero, rep_succ, List.cons_append, List.nil_append, List.getElem?_cons_zero, List.getElem?_cons_succ, List.set_cons_zero, List.set_cons_succ, Nat.sub_self, Nat.reduceAdd, Nat.reduceSub, Option.map_some, Option.bind_some, if_true, Bool.not_true, Bool.not_false, Bool.false_eq_true, if_false, decide_true, decide_false, Int.reduceBEq, Int.reduceEq, Int.reduceLT, Int.reduceLE, Int.reduceNeg, Int.reduceAdd, Int.reduceSub, Int.reduceMul, Int.reduceToNat, Nat.reduceLT, Nat.reduceLeDiff, beq_self_eq_true, reduceIte, eq_self, Int.reduceNe, Int.reduceBNe, not_true_eq_false, not_false_eq_true, true_and, and_true, true_or, or_true, false_or, or_false, and_false, false_and, decide_eq_true_eq, Bool.true_and, Bool.and_true, Bool.false_and, Bool.and_false, Bool.true_or, Bool.or_true, Bool.false_or, Bool.or_false, t_slash, t_nil, isStr_str, dSplit_mk, mkS_beq, h1', dGt, List.length_map, g2, ev_lc, ev_iSeq, wipeD_nil, wipeD_cons, bndN, e3, dAll_map, hq, ev_raise, hn]
      | false => simp only [fnOf, ev_seq, ev_asg, sBnd_def, ev_op, ev_un, bnd_def, ev_call, evs_cons, evs_nil, ev_var, ev_c, ev_if, ev_next, ev_expr, ev_tru, ev_bl, ev_and, ev_or, ev_not, ev_yes, ev_andE, ev_orE, ev_notE, ev_ifE, ev_chain, ofB_some, ofO_some, ofO_none, truD_non, truD_bl, truD_int, truD_str, truD_tup, truD_lst, truD_lsk, ev_tup, ev_lst, ev_nwF, ev_nwM, ev_meth, ev_make, ev_fld, ev_setF, ev_bm1, asQ_tup, asQ_lst, asQ_lsk, asL_lst, asL_lsk, dLen_tup, dLen_lst, dLen_lsk, dLen_str, dIx_tup, dIx_lst, dIx_lsk, dIx_str, dAdd_int, dNeg_int, isN_def, notN_def, isNon_non, isNon_int, isNon_bl, isNon_str, isNon_tup, isNon_lst, isNon_obj, isNon_exc, dEq_int, dNe_int, dEq_str, dNe_str, dEq_bl, atI_zero, atI_one, atI_2, atI_3, atI_4, atI_5, atI_6, atI_7, atI_8, atI_9, atI_10, atI_11, atI_12, atI_m1, ev_gT, setAll_nil, setAll_cons, iOp_int, ev_gN, ev_ret, List.map_cons, List.map_nil, List.length_cons, List.length_nil, rep_zero, rep_succ, List.cons_append, List.nil_append, List.getElem?_cons_zero, List.getElem?_cons_succ, List.set_cons_zero, List.set_cons_succ, Nat.sub_self, Nat.reduceAdd, Nat.reduceSub, Option.map_some, Option.bind_some, if_true, Bool.not_true, Bool.not_false, Bool.false_eq_true, if_false, decide_true, decide_false, Int.reduceBEq, Int.reduceEq, Int.reduceLT, Int.reduceLE, Int.reduceNeg, Int.reduceAdd, Int.reduceSub, Int.reduceMul, Int.reduceToNat, Nat.reduceLT, Nat.reduceLeDiff, beq_self_eq_true, reduceIte, eq_self, Int.reduceNe, Int.reduceBNe, not_true_eq_false, not_false_eq_true, true_and, and_true, true_or, or_true, false_or, or_false, and_false, false_and, decide_eq_true_eq, Bool.true_and, Bool.and_true, Bool.false_and, Bool.and_false, Bool.true_or, Bool.or_true, Bool.false_or, Bool.or_false, t_slash, t_nil, isStr_str, dSplit_mk, mkS_beq, h1', dGt, List.length_map, g2, ev_lc, ev_iSeq, wipeD_nil, wipeD_cons, bndN, e3, dAll_map, hq, ev_raise, hn]
    · have g2 : (8 : Int) < (splC 47 l).length := by omega
      have hn : isName l = false := by unfold isName; rw [h1', decide_eq_false h2]; rfl
      simp only [fnOf, ev_seq, ev_asg, sBnd_def, ev_op, ev_un, bnd_def, ev_call, evs_cons, evs_nil, ev_var, ev_c, ev_if, ev_next, ev_expr, ev_tru, ev_bl, ev_and, ev_or, ev_not, ev_yes, ev_andE, ev_orE, ev_notE, ev_ifE, ev_chain, ofB_some, ofO_some, ofO_none, truD_non, truD_bl, truD_int, truD_str, truD_tup, truD_lst, truD_lsk, ev_tup, ev_lst, ev_nwF, ev_nwM, ev_meth, ev_make, ev_fld, ev_setF, ev_bm1, asQ_tup, asQ_lst, asQ_lsk, asL_lst, asL_lsk, dLen_tup, dLen_lst, dLen_lsk, dLen_str, dIx_tup, dIx_lst, dIx_lsk, dIx_str, dAdd_int, dNeg_int, isN_def, notN_def, isNon_non, isNon_int, isNon_bl, isNon_str, isNon_tup, isNon_lst, isNon_obj, isNon_exc, dEq_int, dNe_int, dEq_str, dNe_str, dEq_bl, atI_zero, atI_one, atI_2, atI_3, atI_4, atI_5, atI_6, atI_7, atI_8, atI_9, atI_10, atI_11, atI_12, atI_m1, ev_gT, setAll_nil, setAll_cons, iOp_int, ev_gN, ev_ret, List.map_cons, List.map_nil, List.length_cons, List.length_nil, rep_zero, rep_succ, List.cons_append, List.nil_append, List.getElem?_cons_zero, List.getElem?_cons_succ, List.set_cons_zero, List.set_cons_succ, Nat.sub_self, Nat.reduceAdd, Nat.reduceSub, Option.map_some, Option.bind_some, if_true, Bool.not_true, Bool.not_false, Bool.false_eq_true, if_false, decide_true, decide_false, Int.reduceBEq, Int.reduceEq, Int.reduceLT, Int.reduceLE, Int.reduceNeg, Int.reduceAdd, Int.reduceSub, Int.reduceMul, Int.reduceToNat, Nat.reduceLT, Nat.reduceLeDiff, beq_self_eq_true, reduceIte, eq_self, Int.reduceNe, Int.reduceBNe, not_true_eq_false, not_false_eq_true, true_and, and_true, true_or, or_true, false_or, or_false, and_false, false_and, decide_eq_true_eq, Bool.true_and, Bool.and_true, Bool.false_and, Bool.and_false, Bool.true_or, Bool.or_true, Bool.false_or, Bool.or_false, t_slash, t_nil, isStr_str, dSplit_mk, mkS_beq, h1', dGt, List.length_map, g2, ev_raise, hn]
/-! ### the law's draws -/
def cell (ns : List Int) (k : Int) : Int := if ns = [] then 0 else (ns[(k % ns.length).toNat]?).getD 0
def mixA (ns : List Int) (k : Int) : Int := (cell ns k + 104729 * (k + 1)) % 4294967291
def mixB (ns : List Int) (k : Int) : Int := mixA ns k ^ 5 % 4294967279
def mix (ns : List Int) (k : Int) : Int := (mixB ns k / 64 * 69621 + mixB ns k) % 4294967231
def dr (ns : List Int) (n : Nat) (many : Int) : Int := mix ns n / 8 % many
theorem dr_nonneg (ns : List Int) (n : Nat) {m : Int} (h : 0 < m) : 0 ≤ dr ns n m := Int.emod_nonneg _ (by omega)
theorem dr_lt (ns : List Int) (n : Nat) {m : Int} (h : 0 < m) : dr ns n m < m := Int.emod_lt_of_pos _ h
theorem mod_ok {m : Int} (h : 0 < m) (i : Int) : (0 ≤ i % m) ∧ (i % m < m) := ⟨Int.emod_nonneg _ (by omega), Int.emod_lt_of_pos _ h⟩
abbrev sc (ns : List Int) : Dt := .lsk (ns.map .int)
theorem ev_cell (ns : List Int) (k : Int) (s : Sto) (hk : 0 ≤ k) : m_law_cell [sc ns, .int k] s = .ok (.int (cell ns k)) s := by
  by_cases h : ns = []
  · subst h
    simp [m_law_cell, b_law_cell, fnOf, cell]
  · have hl : 0 < ns.length := List.length_pos_iff.mpr h
    have hm : (0 : Int) < ns.length := by omega
    obtain ⟨h1, h2⟩ := mod_ok hm k
    obtain ⟨j, hj⟩ : ∃ j : Nat, k % (ns.length : Int) = j := ⟨(k % (ns.length : Int)).toNat, by omega⟩
    have hj2 : j < ns.length := by omega
    have e : atI (ns.map Dt.int) (k % (ns.length : Int)) = some (.int (cell ns k)) := by
      rw [hj, atI_ofNat, List.getElem?_map, List.getElem?_eq_getElem hj2]
      simp [cell, h, hj, List.getElem?_eq_getElem hj2]
    have hm' : ¬ ns.isEmpty = true := by simpa using h
    simp [m_law_cell, b_law_cell, fnOf, h, hl, sc, e]
theorem ev_mix (ns : List Int) (k : Int) (s : Sto) (hk : 0 ≤ k) : m_law_mix [sc ns, .int k] s = .ok (.int (mix ns k)) s := by
  have h1 := mod_ok (m := 4294967291) (by decide) (cell ns k + 104729 * (k + 1))
  have h2 := mod_ok (m := 4294967279) (by decide) (mixA ns k ^ 5)
  have h3 : (mixA ns k).natAbs < 2 ^ 64 := by unfold mixA; omega
  have h5 : -(2 ^ 64) < mixB ns k / 64 ∧ mixB ns k / 64 < 2 ^ 64 := by unfold mixB; omega
  have e1 : m_law_cell [sc ns, .int k] s = .ok (.int (cell ns k)) s := ev_cell ns k s hk
  have e2 : decide ((-(2 ^ 64) < (104729 : Int) ∧ (104729 : Int) < 2 ^ 64) ∨ (-(2 ^ 64) < (k + 1) ∧ (k + 1) < 2 ^ 64)) = true := decide_eq_true (.inl (by decide))
  have e3 : decide ((0 : Int) ≤ 5 ∧ (5 : Int) ≤ 1000000 ∧ (mixA ns k).natAbs < 2 ^ 64) = true := decide_eq_true ⟨by decide, by decide, h3⟩
  have e4 : decide ((-(2 ^ 64) < mixB ns k / 64 ∧ mixB ns k / 64 < 2 ^ 64) ∨ (-(2 ^ 64) < (69621 : Int) ∧ (69621 : Int) < 2 ^ 64)) = true := decide_eq_true (.inl h5)
  have e5 : decide (0 < (64 : Int) ∧ (64 : Int) < 1073741824) = true := by decide
  have f1 : (cell ns k + 104729 * (k + 1)) % 4294967291 = mixA ns k := rfl
  have f2 : mixA ns k ^ (5 : Int).toNat % 4294967279 = mixB ns k := rfl
  have f3 : (mixB ns k / 64 * 69621 + mixB ns k) % 4294967231 = mix ns k := rfl
  have g1 : decide ((0 : Int) < 4294967291) = true := by decide
  have g2 : decide ((0 : Int) < 4294967279) = true := by decide
  have g3 : decide ((0 : Int) < 4294967231) = true := by decide
  unfold m_law_mix b_law_mix
  simp only [fnOf, ev_seq, ev_asg, sBnd_def, ev_op, ev_un, bnd_def, ev_call, evs_cons, evs_nil, ev_var, ev_c, ev_if, ev_next, ev_expr, ev_tru, ev_bl, ev_and, ev_or, ev_not, ev_yes, ev_andE, ev_orE, ev_notE, ev_ifE, ev_chain, ofB_some, ofO_some, ofO_none, truD_non, truD_bl, truD_int, truD_str, truD_tup, truD_lst, truD_lsk, ev_tup, ev_lst, ev_nwF, ev_nwM, ev_meth, ev_make, ev_fld, ev_setF, ev_bm1, asQ_tup, asQ_lst, asQ_lsk, asL_lst, asL_lsk, dLen_tup, dLen_lst, dLen_lsk, dLen_str, dIx_tup, dIx_lst, dIx_lsk, dIx_str, dAdd_int, dNeg_int, isN_def, notN_def, isNon_non, isNon_int, isNon_bl, isNon_str, isNon_tup, isNon_lst, isNon_obj, isNon_exc, dEq_int, dNe_int, dEq_str, dNe_str, dEq_bl, atI_zero, atI_one, atI_2, atI_3, atI_4, atI_5, atI_6, atI_7, atI_8, atI_9, atI_10, atI_11, atI_12, atI_m1, ev_gT, setAll_nil, setAll_cons, iOp_int, ev_gN, ev_ret, List.map_cons, List.map_nil, List.length_cons, List.length_nil, rep_zero, rep_succ, List.cons_append, List.nil_append, List.getElem?_cons_zero, List.getElem?_cons_succ, List.set_cons_zero, List.set_cons_succ, Nat.sub_self, Nat.reduceAdd, Nat.reduceSub, Option.map_some, Option.bind_some, if_true, Bool.not_true, Bool.not_false, Bool.false_eq_true, if_false, decide_true, e1, e2, f1, e3, f2, e5, e4, f3, g1, g2, g3]
theorem ev_draw (ns : List Int) {t N : Nat} {many : Int} {R : List SP} {s : Sto} (o : Own (Tw t N :: R) s) (hN : N < 900000) (hm : 0 < many) :
    ∃ v : Nat, (v : Int) < many ∧ ∃ s', m_law_draw [sc ns, .obj t, .int many] s = .ok (.int v) s' ∧ Own (Tw t (N + 1) :: R) s' := by
  obtain ⟨n, hn, o⟩ := own_tw.mp o
  have ht := o.get
  have h1 := isLst_obj ht
  have h2 := dApp_at (y := .int 0) ht (by rw [List.length_replicate]; omega)
  rw [zeros_app] at h2
  have o2 := o.set (zs (n + 1))
  have h3 : dLen (.obj t) (s.set t (zs (n + 1))) = .ok (.int ((n + 1 : Nat) : Int)) (s.set t (zs (n + 1))) := by
    rw [dLen_obj (l := List.replicate (n + 1) (.int 0)) o2.get, List.length_replicate]
  have h4 := ev_mix ns ((n + 1 : Nat) : Int) (s.set t (zs (n + 1))) (Int.natCast_nonneg _)
  have f1 : mix ns ((n + 1 : Nat) : Int) / 8 % many = dr ns (n + 1) many := rfl
  have g1 : decide (0 < (8 : Int) ∧ (8 : Int) < 1073741824) = true := by decide
  have g2 : decide (0 < many) = true := decide_eq_true hm
  obtain ⟨v, hv⟩ : ∃ v : Nat, dr ns (n + 1) many = v := ⟨(dr ns (n + 1) many).toNat, by have := dr_nonneg ns (n + 1) hm; omega⟩
  refine ⟨v, by have := dr_lt ns (n + 1) hm; omega, _, ?_, own_tw.mpr ⟨n + 1, by omega, o2⟩⟩
  unfold m_law_draw b_law_draw
  simp only [fnOf, ev_seq, ev_asg, sBnd_def, ev_op, ev_un, bnd_def, ev_call, evs_cons, evs_nil, ev_var, ev_c, ev_if, ev_next, ev_expr, ev_tru, ev_bl, ev_and, ev_or, ev_not, ev_yes, ev_andE, ev_orE, ev_notE, ev_ifE, ev_chain, ofB_some, ofO_some, ofO_none, truD_non, truD_bl, truD_int, truD_str, truD_tup, truD_lst, truD_lsk, ev_tup, ev_lst, ev_nwF, ev_nwM, ev_meth, ev_make, ev_fld, ev_setF, ev_bm1, asQ_tup, asQ_lst, asQ_lsk, asL_lst, asL_lsk, dLen_tup, dLen_lst, dLen_lsk, dLen_str, dIx_tup, dIx_lst, dIx_lsk, dIx_str, dAdd_int, dNeg_int, isN_def, notN_def, isNon_non, isNon_int, isNon_bl, isNon_str, isNon_tup, isNon_lst, isNon_obj, isNon_exc, dEq_int, dNe_int, dEq_str, dNe_str, dEq_bl, atI_zero, atI_one, atI_2, atI_3, atI_4, atI_5, atI_6, atI_7, atI_8, atI_9, atI_10, atI_11, atI_12, atI_m1, ev_gT, setAll_nil, setAll_cons, iOp_int, ev_gN, ev_ret, List.map_cons, List.map_nil, List.length_cons, List.length_nil, rep_zero, rep_succ, List.cons_append, List.nil_append, List.getElem?_cons_zero, List.getElem?_cons_succ, List.set_cons_zero, List.set_cons_succ, Nat.sub_self, Nat.reduceAdd, Nat.reduceSub, Option.map_some, Option.bind_some, if_true, Bool.not_true, Bool.not_false, Bool.false_eq_true, if_false, decide_true, h1, h2, h3, h4, f1, g1, g2, hv]
theorem ev_pickQ (ns : List Int) {t N : Nat} {d : Dt} {l : List Dt} {R : List SP} {s : Sto} (o : Own (Tw t N :: R) s) (hN : N < 900000) (hd : ∀ s', Own (Tw t (N + 1) :: R) s' → dLen d s = .ok (.int l.length) s ∧ ∀ i : Int, dIx d (.int i) s' = ofO s' (atI l i)) (hl : l ≠ []) :
    ∃ x ∈ l, ∃ s', m_law_pick [sc ns, .obj t, d] s = .ok x s' ∧ Own (Tw t (N + 1) :: R) s' := by
  have hl' : (0 : Int) < l.length := by have := List.length_pos_iff.mpr hl; omega
  obtain ⟨v, hv, s', h1, o'⟩ := ev_draw ns o hN hl'
  obtain ⟨h2, h3⟩ := hd s' o'
  have h3 := h3 v
  have hv : v < l.length := by omega
  rw [atI_ofNat, List.getElem?_eq_getElem hv] at h3
  refine ⟨l[v], List.getElem_mem hv, s', ?_, o'⟩
  unfold m_law_pick b_law_pick
  simp only [fnOf, ev_seq, ev_asg, sBnd_def, ev_op, ev_un, bnd_def, ev_call, evs_cons, evs_nil, ev_var, ev_c, ev_if, ev_next, ev_expr, ev_tru, ev_bl, ev_and, ev_or, ev_not, ev_yes, ev_andE, ev_orE, ev_notE, ev_ifE, ev_chain, ofB_some, ofO_some, ofO_none, truD_non, truD_bl, truD_int, truD_str, truD_tup, truD_lst, truD_lsk, ev_tup, ev_lst, ev_nwF, ev_nwM, ev_meth, ev_make, ev_fld, ev_setF, ev_bm1, asQ_tup, asQ_lst, asQ_lsk, asL_lst, asL_lsk, dLen_tup, dLen_lst, dLen_lsk, dLen_str, dIx_tup, dIx_lst, dIx_lsk, dIx_str, dAdd_int, dNeg_int, isN_def, notN_def, isNon_non, isNon_int, isNon_bl, isNon_str, isNon_tup, isNon_lst, isNon_obj, isNon_exc, dEq_int, dNe_int, dEq_str, dNe_str, dEq_bl, atI_zero, atI_one, atI_2, atI_3, atI_4, atI_5, atI_6, atI_7, atI_8, atI_9, atI_10, atI_11, atI_12, atI_m1, ev_gT, setAll_nil, setAll_cons, iOp_int, ev_gN, ev_ret, List.map_cons, List.map_nil, List.length_cons, List.length_nil, rep_zero, rep_succ, List.cons_append, List.nil_append, List.getElem?_cons_zero, List.getElem?_cons_succ, List.set_cons_zero, List.set_cons_succ, Nat.sub_self, Nat.reduceAdd, Nat.reduceSub, Option.map_some, Option.bind_some, if_true, Bool.not_true, Bool.not_false, Bool.false_eq_true, if_false, decide_true, decide_false, Int.reduceBEq, Int.reduceEq, Int.reduceLT, Int.reduceLE, Int.reduceNeg, Int.reduceAdd, Int.reduceSub, Int.reduceMul, Int.reduceToNat, Nat.reduceLT, Nat.reduceLeDiff, beq_self_eq_true, reduceIte, eq_self, Int.reduceNe, Int.reduceBNe, not_true_eq_false, not_false_eq_true, true_and, and_true, true_or, or_true, false_or, or_false, and_false, false_and, decide_eq_true_eq, Bool.true_and, Bool.and_true, Bool.false_and, Bool.and_false, Bool.true_or, Bool.or_true, Bool.false_or, Bool.or_false, h2, h1, h3]
theorem ev_pick (ns : List Int) {t N : Nat} {l : List Dt} {R : List SP} {s : Sto} (o : Own (Tw t N :: R) s) (hN : N < 900000) (hl : l ≠ []) : ∃ x ∈ l, ∃ s', m_law_pick [sc ns, .obj t, .lst l] s = .ok x s' ∧ Own (Tw t (N + 1) :: R) s' :=
  ev_pickQ ns o hN (fun s' _ => ⟨rfl, fun i => rfl⟩) hl
theorem ev_pickO (ns : List Int) {t N j : Nat} {l : List Dt} {R : List SP} {s : Sto} (o : Own (Tw t N :: At j (.lst l) :: R) s) (hN : N < 900000) (hl : l ≠ []) : ∃ x ∈ l, ∃ s', m_law_pick [sc ns, .obj t, .obj j] s = .ok x s' ∧ Own (Tw t (N + 1) :: At j (.lst l) :: R) s' :=
  ev_pickQ ns o hN (fun s' o' => ⟨dLen_obj (own2 o).get, fun i => dIx_obj (own2 o').get⟩) hl
theorem ev_look_wish (l : List Nat) (s : Sto) : m_look_wish [.str (mkS l)] s = if isWish l = true then .ok .non s else .exc 3 s := by
  obtain ⟨z, hz⟩ := splC_last_ne l
  have e3 : ∀ v : Dt, v = .lst (lvs (plain (splC 47 l))) → lcGo (gN 3) Pd.tYes (eOr (eOp dEq (eVar 3) (eC (.str (mkS [43])))) (eCall m_is_level [eVar 3])) (fun _ => True) (lvs (plain (splC 47 l))) [some (.str (mkS l)), some (.lst (lvs (splC 47 l))), some v, none] s = .ok ((plain (splC 47 l)).map fun p => .bl (gw p)) s := fun v _ =>
    by
      refine lc_map ?_ fun p _ => ⟨[some (.str (mkS l)), some (.lst (lvs (splC 47 l))), some v, some (.str (mkS p))], rfl, rfl, ?_⟩
      · trivial
      unfold gw
      cases hp : (p == [43]) with
      | true => simp only [fnOf, ev_seq, ev_asg, sBnd_def, ev_op, ev_un, bnd_def, ev_call, evs_cons, evs_nil, ev_var, ev_c, ev_if, ev_next, ev_expr, ev_tru, ev_bl, ev_and, ev_or, ev_not, ev_yes, ev_andE, ev_orE, ev_notE, ev_ifE, ev_chain, ofB_some, ofO_some, ofO_none, truD_non, truD_bl, truD_int, truD_str, truD_tup, truD_lst, truD_lsk, ev_tup, ev_lst, ev_nwF, ev_nwM, ev_meth, ev_make, ev_fld, ev_setF, ev_bm1, asQ_tup, asQ_lst, asQ_lsk, asL_lst, asL_lsk, dLen_tup, dLen_lst, dLen_lsk, dLen_str, dIx_tup, dIx_lst, dIx_lsk, dIx_str, dAdd_int, dNeg_int, isN_def, notN_def, isNon_non, isNon_int, isNon_bl, isNon_str, isNon_tup, isNon_lst, isNon_obj, isNon_exc, dEq_int, dNe_int, dEq_str, dNe_str, dEq_bl, atI_zero, atI_one, atI_2, atI_3, atI_4, atI_5, atI_6, atI_7, atI_8, atI_9, atI_10, atI_11, atI_12, atI_m1, ev_gT, setAll_nil, setAll_cons, iOp_int, ev_gN, ev_ret, List.map_cons, List.map_nil, List.length_cons, List.length_nil, rep_zero, rep_succ, List.cons_append, List.nil_append, List.getElem?_cons_zero, List.getElem?_cons_succ, List.set_cons_zero, List.set_cons_succ, Nat.sub_self, Nat.reduceAdd, Nat.reduceSub, Option.map_some, Option.bind_some, if_true, Bool.not_true, Bool.not_false, Bool.false_eq_true, if_false, decide_true, decide_false, Int.reduceBEq, Int.reduceEq, Int.reduceLT, Int.reduceLE, Int.reduceNeg, Int.reduceAdd, Int.reduceSub, Int.reduceMul, Int.reduceToNat, Nat.reduceLT, Nat.reduceLeDiff, beq_self_eq_true, reduceIte, eq_self, Int.reduceNe, Int.reduceBNe, not_true_eq_false, not_false_eq_true, true_and, and_true, true_or, or_true, false_or, or_false, and_false, false_and, decide_eq_true_eq, Bool.true_and, Bool.and_true, Bool.false_and, Bool.and_false, Bool.true_or, Bool.or_true, Bool.false_or, Bool.or_false, ev_is_level, mkS_beq, hp]
      | false => simp only [fnOf, ev_seq, ev_asg, sBnd_def, ev_op, ev_un, bnd_def, ev_call, evs_cons, evs_nil, ev_var, ev_c, ev_if, ev_next, ev_expr, ev_tru, ev_bl, ev_and, ev_or, ev_not, ev_yes, ev_andE, ev_orE, ev_notE, ev_ifE, ev_chain, ofB_some, ofO_some, ofO_none, truD_non, truD_bl, truD_int, truD_str, truD_tup, truD_lst, truD_lsk, ev_tup, ev_lst, ev_nwF, ev_nwM, ev_meth, ev_make, ev_fld, ev_setF, ev_bm1, asQ_tup, asQ_lst, asQ_lsk, asL_lst, asL_lsk, dLen_tup, dLen_lst, dLen_lsk, dLen_str, dIx_tup, dIx_lst, dIx_lsk, dIx_str, dAdd_int, dNeg_int, isN_def, notN_def, isNon_non, isNon_int, isNon_bl, isNon_str, isNon_tup, isNon_lst, isNon_obj, isNon_exc, dEq_int, dNe_int, dEq_str, dNe_str, dEq_bl, atI_zero, atI_one, atI_2, atI_3, atI_4, atI_5, atI_6, atI_7, atI_8, atI_9, atI_10, atI_11, atI_12, atI_m1, ev_gT, setAll_nil, setAll_cons, iOp_int, ev_gN, ev_ret, List.map_cons, List.map_nil, List.length_cons, List.length_nil, rep_zero, rep_succ, List.cons_append, List.nil_append, List.getElem?_cons_zero, List.getElem?_cons_succ, List.set_cons_zero, List.set_cons_succ, Nat.sub_self, Nat.reduceAdd, Nat.reduceSub, Option.map_some, Option.bind_some, if_true, Bool.not_true, Bool.not_false, Bool.false_eq_true, if_false, decide_true, decide_false, Int.reduceBEq, Int.reduceEq, Int.reduceLT, Int.reduceLE, Int.reduceNeg, Int.reduceAdd, Int.reduceSub, Int.reduceMul, Int.reduceToNat, Nat.reduceLT, Nat.reduceLeDiff, beq_self_eq_true, reduceIte, eq_self, Int.reduceNe, Int.reduceBNe, not_true_eq_false, not_false_eq_true, true_and, and_true, true_or, or_true, false_or, or_false, and_false, false_and, decide_eq_true_eq, Bool.true_and, Bool.and_true, Bool.false_and, Bool.and_false, Bool.true_or, Bool.or_true, Bool.false_or, Bool.or_false, ev_is_level, mkS_beq, hp]
  have e4 := e3 _ rfl
  have hl : ((splC 47 l).map fun l => Dt.str (mkS l)).getLast? = some (.str (mkS z)) := by rw [List.getLast?_map, hz]; rfl
  have e5 : (eIf (tBl (eOp dEq (eOp dIx (eVar 1) (eUn dNeg (eC (.int 1)))) (eC (.str (mkS [35]))))) (eSl nwF (eVar 1) none (some (eUn dNeg (eC (.int 1))))) (eVar 1)) [some (.str (mkS l)), some (.lst (lvs (splC 47 l))), none, none] s = .ok (.lst (lvs (plain (splC 47 l)))) s := by
    by_cases hh : z = [35]
    · have hb : (z == [35]) = true := by simpa using hh
      have hp : plain (splC 47 l) = (splC 47 l).dropLast := by unfold plain; rw [hz, hh, if_pos rfl]
      simp only [fnOf, ev_seq, ev_asg, sBnd_def, ev_op, ev_un, bnd_def, ev_call, evs_cons, evs_nil, ev_var, ev_c, ev_if, ev_next, ev_expr, ev_tru, ev_bl, ev_and, ev_or, ev_not, ev_yes, ev_andE, ev_orE, ev_notE, ev_ifE, ev_chain, ofB_some, ofO_some, ofO_none, truD_non, truD_bl, truD_int, truD_str, truD_tup, truD_lst, truD_lsk, ev_tup, ev_lst, ev_nwF, ev_nwM, ev_meth, ev_make, ev_fld, ev_setF, ev_bm1, asQ_tup, asQ_lst, asQ_lsk, asL_lst, asL_lsk, dLen_tup, dLen_lst, dLen_lsk, dLen_str, dIx_tup, dIx_lst, dIx_lsk, dIx_str, dAdd_int, dNeg_int, isN_def, notN_def, isNon_non, isNon_int, isNon_bl, isNon_str, isNon_tup, isNon_lst, isNon_obj, isNon_exc, dEq_int, dNe_int, dEq_str, dNe_str, dEq_bl, atI_zero, atI_one, atI_2, atI_3, atI_4, atI_5, atI_6, atI_7, atI_8, atI_9, atI_10, atI_11, atI_12, atI_m1, ev_gT, setAll_nil, setAll_cons, iOp_int, ev_gN, ev_ret, List.map_cons, List.map_nil, List.length_cons, List.length_nil, rep_zero, rep_succ, List.cons_append, List.nil_append, List.getElem?_cons_zero, List.getElem?_cons_succ, List.set_cons_zero, List.set_cons_succ, Nat.sub_self, Nat.reduceAdd, Nat.reduceSub, Option.map_some, Option.bind_some, if_true, Bool.not_true, Bool.not_false, Bool.false_eq_true, if_false, decide_true, decide_false, Int.reduceBEq, Int.reduceEq, Int.reduceLT, Int.reduceLE, Int.reduceNeg, Int.reduceAdd, Int.reduceSub, Int.reduceMul, Int.reduceToNat, Nat.reduceLT, Nat.reduceLeDiff, beq_self_eq_true, reduceIte, eq_self, Int.reduceNe, Int.reduceBNe, not_true_eq_false, not_false_eq_true, true_and, and_true, true_or, or_true, false_or, or_false, and_false, false_and, decide_eq_true_eq, Bool.true_and, Bool.and_true, Bool.false_and, Bool.and_false, Bool.true_or, Bool.or_true, Bool.false_or, Bool.or_false, hl, mkS_beq, hb, ev_sl, evp_none, evp_some, dSl_lst, cut_init, hp, List.map_dropLast]
    · have hb : (z == [35]) = false := by simpa using hh
      have hp : plain (splC 47 l) = splC 47 l := by unfold plain; rw [hz, if_neg (fun h => hh (Option.some.inj h))]
      simp only [fnOf, ev_seq, ev_asg, sBnd_def, ev_op, ev_un, bnd_def, ev_call, evs_cons, evs_nil, ev_var, ev_c, ev_if, ev_next, ev_expr, ev_tru, ev_bl, ev_and, ev_or, ev_not, ev_yes, ev_andE, ev_orE, ev_notE, ev_ifE, ev_chain, ofB_some, ofO_some, ofO_none, truD_non, truD_bl, truD_int, truD_str, truD_tup, truD_lst, truD_lsk, ev_tup, ev_lst, ev_nwF, ev_nwM, ev_meth, ev_make, ev_fld, ev_setF, ev_bm1, asQ_tup, asQ_lst, asQ_lsk, asL_lst, asL_lsk, dLen_tup, dLen_lst, dLen_lsk, dLen_str, dIx_tup, dIx_lst, dIx_lsk, dIx_str, dAdd_int, dNeg_int, isN_def, notN_def, isNon_non, isNon_int, isNon_bl, isNon_str, isNon_tup, isNon_lst, isNon_obj, isNon_exc, dEq_int, dNe_int, dEq_str, dNe_str, dEq_bl, atI_zero, atI_one, atI_2, atI_3, atI_4, atI_5, atI_6, atI_7, atI_8, atI_9, atI_10, atI_11, atI_12, atI_m1, ev_gT, setAll_nil, setAll_cons, iOp_int, ev_gN, ev_ret, List.map_cons, List.map_nil, List.length_cons, List.length_nil, rep_zero, rep_succ, List.cons_append, List.nil_append, List.getElem?_cons_zero, List.getElem?_cons_succ, List.set_cons_zero, List.set_cons_succ, Nat.sub_self, Nat.reduceAdd, Nat.reduceSub, Option.map_some, Option.bind_some, if_true, Bool.not_true, Bool.not_false, Bool.false_eq_true, if_false, decide_true, decide_false, Int.reduceBEq, Int.reduceEq, Int.reduceLT, Int.reduceLE, Int.reduceNeg, Int.reduceAdd, Int.reduceSub, Int.reduceMul, Int.reduceToNat, Nat.reduceLT, Nat.reduceLeDiff, beq_self_eq_true, reduceIte, eq_self, Int.reduceNe, Int.reduceBNe, not_true_eq_false, not_false_eq_true, true_and, and_true, true_or, or_true, false_or, or_false, and_false, false_and, decide_eq_true_eq, Bool.true_and, Bool.and_true, Bool.false_and, Bool.and_false, Bool.true_or, Bool.or_true, Bool.false_or, Bool.or_false, hl, mkS_beq, hb, hp]
  unfold m_look_wish b_look_wish
  by_cases h1 : (l == []) = true
  · have hn : isWish l = false := by unfold isWish; rw [h1]; rfl
    simp only [ev_ifE] at e5
    simp only [fnOf, ev_seq, ev_asg, sBnd_def, ev_op, ev_un, bnd_def, ev_call, evs_cons, evs_nil, ev_var, ev_c, ev_if, ev_next, ev_expr, ev_tru, ev_bl, ev_and, ev_or, ev_not, ev_yes, ev_andE, ev_orE, ev_notE, ev_ifE, ev_chain, ofB_some, ofO_some, ofO_none, truD_non, truD_bl, truD_int, truD_str, truD_tup, truD_lst, truD_lsk, ev_tup, ev_lst, ev_nwF, ev_nwM, ev_meth, ev_make, ev_fld, ev_setF, ev_bm1, asQ_tup, asQ_lst, asQ_lsk, asL_lst, asL_lsk, dLen_tup, dLen_lst, dLen_lsk, dLen_str, dIx_tup, dIx_lst, dIx_lsk, dIx_str, dAdd_int, dNeg_int, isN_def, notN_def, isNon_non, isNon_int, isNon_bl, isNon_str, isNon_tup, isNon_lst, isNon_obj, isNon_exc, dEq_int, dNe_int, dEq_str, dNe_str, dEq_bl, atI_zero, atI_one, atI_2, atI_3, atI_4, atI_5, atI_6, atI_7, atI_8, atI_9, atI_10, atI_11, atI_12, atI_m1, ev_gT, setAll_nil, setAll_cons, iOp_int, ev_gN, ev_ret, List.map_cons, List.map_nil, List.length_cons, List.length_nil, rep_zero, rep_succ, List.cons_append, List.nil_append, List.getElem?_cons_zero, List.getElem?_cons_succ, List.set_cons_zero, List.set_cons_succ, Nat.sub_self, Nat.reduceAdd, Nat.reduceSub, Option.map_some, Option.bind_some, if_true, Bool.not_true, Bool.not_false, Bool.false_eq_true, if_false, decide_true, decide_false, Int.reduceBEq, Int.reduceEq, Int.reduceLT, Int.reduceLE, Int.reduceNeg, Int.reduceAdd, Int.reduceSub, Int.reduceMul, Int.reduceToNat, Nat.reduceLT, Nat.reduceLeDiff, beq_self_eq_true, reduceIte, eq_self, Int.reduceNe, Int.reduceBNe, not_true_eq_false, not_false_eq_true, true_and, and_true, true_or, or_true, false_or, or_false, and_false, false_and, decide_eq_true_eq, Bool.true_and, Bool.and_true, Bool.false_and, Bool.and_false, Bool.true_or, Bool.or_true, Bool.false_or, Bool.or_false, t_slash, t_hash, t_plus, t_nil, isStr_str, dSplit_mk] at e5
    simp only [fnOf, ev_seq, ev_asg, sBnd_def, ev_op, ev_un, bnd_def, ev_call, evs_cons, evs_nil, ev_var, ev_c, ev_if, ev_next, ev_expr, ev_tru, ev_bl, ev_and, ev_or, ev_not, ev_yes, ev_andE, ev_orE, ev_notE, ev_ifE, ev_chain, ofB_some, ofO_some, ofO_none, truD_non, truD_bl, truD_int, truD_str, truD_tup, truD_lst, truD_lsk, ev_tup, ev_lst, ev_nwF, ev_nwM, ev_meth, ev_make, ev_fld, ev_setF, ev_bm1, asQ_tup, asQ_lst, asQ_lsk, asL_lst, asL_lsk, dLen_tup, dLen_lst, dLen_lsk, dLen_str, dIx_tup, dIx_lst, dIx_lsk, dIx_str, dAdd_int, dNeg_int, isN_def, notN_def, isNon_non, isNon_int, isNon_bl, isNon_str, isNon_tup, isNon_lst, isNon_obj, isNon_exc, dEq_int, dNe_int, dEq_str, dNe_str, dEq_bl, atI_zero, atI_one, atI_2, atI_3, atI_4, atI_5, atI_6, atI_7, atI_8, atI_9, atI_10, atI_11, atI_12, atI_m1, ev_gT, setAll_nil, setAll_cons, iOp_int, ev_gN, ev_ret, List.map_cons, List.map_nil, List.length_cons, List.length_nil, rep_zero, rep_succ, List.cons_append, List.nil_append, List.getElem?_cons_zero, List.getElem?_cons_succ, List.set_cons_zero, List.set_cons_succ, Nat.sub_self, Nat.reduceAdd, Nat.reduceSub, Option.map_some, Option.bind_some, if_true, Bool.not_true, Bool.not_false, Bool.false_eq_true, if_false, decide_true, decide_false, Int.reduceBEq, Int.reduceEq, Int.reduceLT, Int.reduceLE, Int.reduceNeg, Int.reduceAdd, Int.reduceSub, Int.reduceMul, Int.reduceToNat, Nat.reduceLT, Nat.reduceLeDiff, beq_self_eq_true, reduceIte, eq_self, Int.reduceNe, Int.reduceBNe, not_true_eq_false, not_false_eq_true, true_and, and_true, true_or, or_true, false_or, or_false, and_false, false_and, decide_eq_true_eq, Bool.true_and, Bool.and_true, Bool.false_and, Bool.and_false, Bool.true_or, Bool.or_true, Bool.false_or, Bool.or_false, t_slash, t_hash, t_plus, t_nil, isStr_str, dSplit_mk, e5, mkS_beq, h1, ev_raise, hn]
  · have h1' : (l == []) = false := by simpa using h1
    simp only [ev_ifE] at e5
    simp only [fnOf, ev_seq, ev_asg, sBnd_def, ev_op, ev_un, bnd_def, ev_call, evs_cons, evs_nil, ev_var, ev_c, ev_if, ev_next, ev_expr, ev_tru, ev_bl, ev_and, ev_or, ev_not, ev_yes, ev_andE, ev_orE, ev_notE, ev_ifE, ev_chain, ofB_some, ofO_some, ofO_none, truD_non, truD_bl, truD_int, truD_str, truD_tup, truD_lst, truD_lsk, ev_tup, ev_lst, ev_nwF, ev_nwM, ev_meth, ev_make, ev_fld, ev_setF, ev_bm1, asQ_tup, asQ_lst, asQ_lsk, asL_lst, asL_lsk, dLen_tup, dLen_lst, dLen_lsk, dLen_str, dIx_tup, dIx_lst, dIx_lsk, dIx_str, dAdd_int, dNeg_int, isN_def, notN_def, isNon_non, isNon_int, isNon_bl, isNon_str, isNon_tup, isNon_lst, isNon_obj, isNon_exc, dEq_int, dNe_int, dEq_str, dNe_str, dEq_bl, atI_zero, atI_one, atI_2, atI_3, atI_4, atI_5, atI_6, atI_7, atI_8, atI_9, atI_10, atI_11, atI_12, atI_m1, ev_gT, setAll_nil, setAll_cons, iOp_int, ev_gN, ev_ret, List.map_cons, List.map_nil, List.length_cons, List.length_nil, rep_zero, rep_succ, List.cons_append, List.nil_append, List.getElem?_cons_zero, List.getElem?_cons_succ, List.set_cons_zero, List.set_cons_succ, Nat.sub_self, Nat.reduceAdd, Nat.reduceSub, Option.map_some, Option.bind_some, if_true, Bool.not_true, Bool.not_false, Bool.false_eq_true, if_false, decide_true, decide_false, Int.reduceBEq, Int.reduceEq, Int.reduceLT, Int.reduceLE, Int.reduceNeg, Int.reduceAdd, Int.reduceSub, Int.reduceMul, Int.reduceToNat, Nat.reduceLT, Nat.reduceLeDiff, beq_self_eq_true, reduceIte, eq_self, Int.reduceNe, Int.reduceBNe, not_true_eq_false, not_false_eq_true, true_and, and_true, true_or, or_true, false_or, or_false, and_false, false_and, decide_eq_true_eq, Bool.true_and, Bool.and_true, Bool.false_and, Bool.and_false, Bool.true_or, Bool.or_true, Bool.false_or, Bool.or_false, t_slash, t_hash, t_plus, t_nil, isStr_str, dSplit_mk] at e5
    by_cases h2 : (splC 47 l).length ≤ 8
    · have g2 : ¬ ((8 : Int) < (splC 47 l).length) := by omega
      have hn : isWish l = (plain (splC 47 l)).all gw := by unfold isWish; rw [h1', decide_eq_true h2]; rfl
      cases hq : (plain (splC 47 l)).all gw with
      | true => simp only [fnOf, ev_seq, ev_asg, sBnd_def, ev_op, ev_un, bnd_def, ev_call, evs_cons, evs_nil, ev_var, ev_c, ev_if, ev_next, ev_expr, ev_tru, ev_bl, ev_and, ev_or, ev_not, ev_yes, ev_andE, ev_orE, ev_notE, ev_ifE, ev_chain, ofB_some, ofO_some, ofO_none, truD_non, truD_bl, truD_int, truD_str, truD_tup, truD_lst, truD_lsk, ev_tup, ev_lst, ev_nwF, ev_nwM, ev_meth, ev_make, ev_fld, ev_setF, ev_bm1, asQ_tup, asQ_lst, asQ_lsk, asL_lst, asL_lsk, dLen_tup, dLen_lst, dLen_lsk, dLen_str, dIx_tup, dIx_lst, dIx_lsk, dIx_str, dAdd_int, dNeg_int, isN_def, notN_def, isNon_non, isNon_int, isNon_bl, isNon_str, isNon_tup, isNon_lst, isNon_obj, isNon_exc, dEq_int, dNe_int, dEq_str, dNe_str, dEq_bl, atI_zero, atI_one, atI_2, atI_3, atI_4, atI_5, atI_6, atI_7, atI_8, atI_9, atI_10, atI_11, atI_12, atI_m1, ev_gT, setAll_nil, setAll_cons, iOp_int, ev_gN, ev_ret, List.map_cons, List.map_nil, List.length_cons, List.length_nil, rep_zero, rep_succ, List.cons_append, List.nil_append, List.getElem?_cons_zero, List.getElem?_cons_succ, List.set_cons_zero, List.set_cons_succ, Nat.sub_self, Nat.reduceAdd, Nat.reduceSub, Option.map_some, Option.bind_some, if_true, Bool.not_true, Bool.not_false, Bool.false_eq_true, if_false, decide_true, decide_false, Int.reduceBEq, Int.reduceEq, Int.reduceLT, Int.reduceLE, Int.reduceNeg, Int.reduceAdd, Int.reduceSub, Int.reduceMul, Int.reduceToNat, Nat.reduceLT, Nat.reduceLeDiff, beq_self_eq_true, reduceIte, eq_self, Int.reduceNe, Int.reduceBNe, not_true_eq_false, not_false_eq_true, true_and, and_true, true_or, or_true, false_or, or_false, and_false, false_and, decide_eq_true_eq, Bool.true_and, Bool.and_true, Bool.false_and, Bool.and_false, Bool.true_or, Bool.or_true, Bool.false_or, Bool.or_false, t_slash, t_hash, t_plus, t_nil, isStr_str, dSplit_mk, e5, mkS_beq, h1', dGt, List.length_map, g2, ev_lc, ev_iSeq, wipeD_nil, wipeD_cons, bndN, e4, dAll_map, hq, ev_raise, hn]
      | false => simp only [fnOf, ev_seq, ev_asg, sBnd_def, ev_op, ev_un, bnd_def, ev_call, evs_cons, evs_nil, ev_var, ev_c, ev_if, ev_next, ev_expr, ev_tru, ev_bl, ev_and, ev_or, ev_not, ev_yes, ev_andE, ev_orE, ev_notE, ev_ifE, ev_chain, ofB_some, ofO_some, ofO_none, truD_non, truD_bl, truD_int, truD_str, truD_tup, truD_lst, truD_lsk, ev_tup, ev_lst, ev_nwF, ev_nwM, ev_meth, ev_make, ev_fld, ev_setF, ev_bm1, asQ_tup, asQ_lst, asQ_lsk, asL_lst, asL_lsk, dLen_tup, dLen_lst, dLen_lsk, dLen_str, dIx_tup, dIx_lst, dIx_lsk, dIx_str, dAdd_int, dNeg_int, isN_def, notN_def, isNon_non, isNon_int, isNon_bl, isNon_str, isNon_tup, isNon_lst, isNon_obj, isNon_exc, dEq_int, dNe_int, dEq_str, dNe_str, dEq_bl, atI_zero, atI_one, atI_2, atI_3, atI_4, atI_5, atI_6, atI_7, atI_8, atI_9, atI_10, atI_11, atI_12, atI_m1, ev_gT, setAll_nil, setAll_cons, iOp_int, ev_gN, ev_ret, List.map_cons, List.map_nil, List.length_cons, List.length_nil, rep_zero, rep_succ, List.cons_append, List.nil_append, List.getElem?_cons_zero, List.getElem?_cons_succ, List.set_cons_zero, List.set_cons_succ, Nat.sub_self, Nat.reduceAdd, Nat.reduceSub, Option.map_some, Option.bind_some, if_true, Bool.not_true, Bool.not_false, Bool.false_eq_true, if_false, decide_true, decide_false, Int.reduceBEq, Int.reduceEq, Int.reduceLT, Int.reduceLE, Int.reduceNeg, Int.reduceAdd, Int.reduceSub, Int.reduceMul, Int.reduceToNat, Nat.reduceLT, Nat.reduceLeDiff, beq_self_eq_true, reduceIte, eq_self, Int.reduceNe, Int.reduceBNe, not_true_eq_false, not_false_eq_true, true_and, and_true, true_or, or_true, false_or, or_false, and_false, false_and, decide_eq_true_eq, Bool.true_and, Bool.and_true, Bool.false_and, Bool.and_false, Bool.true_or, Bool.or_true, Bool.false_or, Bool.or_false, t_slash, t_hash, t_plus, t_nil, isStr_str, dSplit_mk, e5, mkS_beq, h1', dGt, List.length_map, g2, ev_lc, ev_iSeq, wipeD_nil, wipeD_cons, bndN, e4, dAll_map, hq, ev_raise, hn]
    · have g2 : (8 : Int) < (splC 47 l).length := by omega
      have hn : isWish l = false := by unfold isWish; rw [h1', decide_eq_false h2]; rfl
      simp only [fnOf, ev_seq, ev_asg, sBnd_def, ev_op, ev_un, bnd_def, ev_call, evs_cons, evs_nil, ev_var, ev_c, ev_if, ev_next, ev_expr, ev_tru, ev_bl, ev_and, ev_or, ev_not, ev_yes, ev_andE, ev_orE, ev_notE, ev_ifE, ev_chain, ofB_some, ofO_some, ofO_none, truD_non, truD_bl, truD_int, truD_str, truD_tup, truD_lst, truD_lsk, ev_tup, ev_lst, ev_nwF, ev_nwM, ev_meth, ev_make, ev_fld, ev_setF, ev_bm1, asQ_tup, asQ_lst, asQ_lsk, asL_lst, asL_lsk, dLen_tup, dLen_lst, dLen_lsk, dLen_str, dIx_tup, dIx_lst, dIx_lsk, dIx_str, dAdd_int, dNeg_int, isN_def, notN_def, isNon_non, isNon_int, isNon_bl, isNon_str, isNon_tup, isNon_lst, isNon_obj, isNon_exc, dEq_int, dNe_int, dEq_str, dNe_str, dEq_bl, atI_zero, atI_one, atI_2, atI_3, atI_4, atI_5, atI_6, atI_7, atI_8, atI_9, atI_10, atI_11, atI_12, atI_m1, ev_gT, setAll_nil, setAll_cons, iOp_int, ev_gN, ev_ret, List.map_cons, List.map_nil, List.length_cons, List.length_nil, rep_zero, rep_succ, List.cons_append, List.nil_append, List.getElem?_cons_zero, List.getElem?_cons_succ, List.set_cons_zero, List.set_cons_succ, Nat.sub_self, Nat.reduceAdd, Nat.reduceSub, Option.map_some, Option.bind_some, if_true, Bool.not_true, Bool.not_false, Bool.false_eq_true, if_false, decide_true, decide_false, Int.reduceBEq, Int.reduceEq, Int.reduceLT, Int.reduceLE, Int.reduceNeg, Int.reduceAdd, Int.reduceSub, Int.reduceMul, Int.reduceToNat, Nat.reduceLT, Nat.reduceLeDiff, beq_self_eq_true, reduceIte, eq_self, Int.reduceNe, Int.reduceBNe, not_true_eq_false, not_false_eq_true, true_and, and_true, true_or, or_true, false_or, or_false, and_false, false_and, decide_eq_true_eq, Bool.true_and, Bool.and_true, Bool.false_and, Bool.and_false, Bool.true_or, Bool.or_true, Bool.false_or, Bool.or_false, t_slash, t_hash, t_plus, t_nil, isStr_str, dSplit_mk, e5, mkS_beq, h1', dGt, List.length_map, g2, ev_raise, hn]
/-! ### fits -/
def fitsL : List (List Nat) → List (List Nat) → Bool
  | [], qs => qs.isEmpty
  | p :: ps, qs => if p = [35] then true else match qs with
    | [] => false
    | q :: qs => ([43] == p || q == p) && fitsL ps qs
theorem splC_cons (l : List Nat) : ∃ p ps, splC 47 l = p :: ps := by
  cases e : splC 47 l with
  | nil => exact absurd e (splC_ne 47 l)
  | cons p ps => exact ⟨p, ps, rfl⟩
/-- the first level is for any -/
def wide (ls : List (List Nat)) : Bool := match ls with
  | [] => false
  | p :: _ => [43] == p || [35] == p
def fitsC (w l : List Nat) : Bool := !(wide (splC 47 w) && TL.pre [36] l) && fitsL (splC 47 w) (splC 47 l)
/-! ### the law's own look at names -/
def lsg (c : Nat) : Bool := 32 ≤ c && c < 127 && !(35 == c || (37 == c || 43 == c))
def ll (l : List Nat) : Bool := decide (l.length < 13) && l.all lsg
theorem lsg_sgn {c : Nat} (h : c ≠ 47) : lsg c = sgn c := by
  unfold lsg sgn
  have : (c != 37 && !decide (c ∈ [43, 35, 47])) = !(35 == c || (37 == c || 43 == c)) := by
    rw [Bool.eq_iff_iff]
    simp
    omega
  rw [Bool.and_assoc (decide (32 ≤ c) && decide (c < 127)), this]
theorem ll_gl {l : List Nat} (h : 47 ∉ l) : ll l = gl l := by
  unfold ll gl
  have e1 : decide (l.length < 13) = decide (l.length ≤ 12) := by
    rw [Bool.eq_iff_iff]; simp; omega
  have e2 : l.all lsg = l.all sgn := by
    rw [Bool.eq_iff_iff, List.all_eq_true, List.all_eq_true]
    constructor
    · intro k c hc
      rw [← lsg_sgn (fun e => h (e ▸ hc))]
      exact k c hc
    · intro k c hc
      rw [lsg_sgn (fun e => h (e ▸ hc))]
      exact k c hc
  rw [e1, e2]
theorem nat_beq_int (a c : Nat) : (((a : Nat) : Int) == (c : Int)) = (a == c) := by
  rw [Bool.eq_iff_iff]; simp; omega
theorem ev_law_is_level (l : List Nat) (s : Sto) : m_law_is_level [.str (mkS l)] s = .ok (.bl (ll l)) s := by
  have e1 : lcGo (gN 2) Pd.tYes (eUn dOrd (eVar 2)) (fun _ => True) (l.map fun c => .str (mkS [c])) [some (.str (mkS l)), none, none, none] s = .ok (l.map fun (c : Nat) => .int (c : Int)) s := by
    refine lc_map trivial fun c _ => ⟨[some (.str (mkS l)), none, some (.str (mkS [c])), none], rfl, rfl, ?_⟩
    simp only [fnOf, ev_seq, ev_asg, sBnd_def, ev_op, ev_un, bnd_def, ev_call, evs_cons, evs_nil, ev_var, ev_c, ev_if, ev_next, ev_expr, ev_tru, ev_bl, ev_and, ev_or, ev_not, ev_yes, ev_andE, ev_orE, ev_notE, ev_ifE, ev_chain, ofB_some, ofO_some, ofO_none, truD_non, truD_bl, truD_int, truD_str, truD_tup, truD_lst, truD_lsk, ev_tup, ev_lst, ev_nwF, ev_nwM, ev_meth, ev_make, ev_fld, ev_setF, ev_bm1, asQ_tup, asQ_lst, asQ_lsk, asL_lst, asL_lsk, dLen_tup, dLen_lst, dLen_lsk, dLen_str, dIx_tup, dIx_lst, dIx_lsk, dIx_str, dAdd_int, dNeg_int, isN_def, notN_def, isNon_non, isNon_int, isNon_bl, isNon_str, isNon_tup, isNon_lst, isNon_obj, isNon_exc, dEq_int, dNe_int, dEq_str, dNe_str, dEq_bl, atI_zero, atI_one, atI_2, atI_3, atI_4, atI_5, atI_6, atI_7, atI_8, atI_9, atI_10, atI_11, atI_12, atI_m1, ev_gT, setAll_nil, setAll_cons, iOp_int, ev_gN, ev_ret, List.map_cons, List.map_nil, List.length_cons, List.length_nil, rep_zero, rep_succ, List.cons_append, List.nil_append, List.getElem?_cons_zero, List.getElem?_cons_succ, List.set_cons_zero, List.set_cons_succ, Nat.sub_self, Nat.reduceAdd, Nat.reduceSub, Option.map_some, Option.bind_some, if_true, Bool.not_true, Bool.not_false, Bool.false_eq_true, if_false, decide_true, decide_false, Int.reduceBEq, Int.reduceEq, Int.reduceLT, Int.reduceLE, Int.reduceNeg, Int.reduceAdd, Int.reduceSub, Int.reduceMul, Int.reduceToNat, Nat.reduceLT, Nat.reduceLeDiff, beq_self_eq_true, reduceIte, eq_self, Int.reduceNe, Int.reduceBNe, not_true_eq_false, not_false_eq_true, true_and, and_true, true_or, or_true, false_or, or_false, and_false, false_and, decide_eq_true_eq, Bool.true_and, Bool.and_true, Bool.false_and, Bool.and_false, Bool.true_or, Bool.or_true, Bool.false_or, Bool.or_false, dOrd_mk]
  have e2 : lcGo (gN 3) Pd.tYes (eAnd (eChain dLe dLt (eC (.int 32)) (eVar 3) (eC (.int 127))) (eOp dNotIn (eVar 3) (eTup [eC (.int 35), eC (.int 37), eC (.int 43)]))) (fun _ => True) (l.map fun (c : Nat) => .int (c : Int)) [some (.str (mkS l)), some (.lst (l.map fun (c : Nat) => .int (c : Int))), none, none] s = .ok (l.map fun c => .bl (lsg c)) s := by
    refine lc_map trivial fun c _ => ⟨[some (.str (mkS l)), some (.lst (l.map fun (c : Nat) => .int (c : Int))), none, some (.int (c : Int))], rfl, rfl, ?_⟩
    have b1 : ((35 : Int) == (c : Int)) = (35 == c) := nat_beq_int 35 c
    have b2 : ((37 : Int) == (c : Int)) = (37 == c) := nat_beq_int 37 c
    have b3 : ((43 : Int) == (c : Int)) = (43 == c) := nat_beq_int 43 c
    by_cases h2 : (32 : Int) ≤ c
    · have a1 : decide (32 ≤ c) = true := decide_eq_true (by omega)
      by_cases h3 : (c : Int) < 127
      · have a2 : decide (c < 127) = true := decide_eq_true (by omega)
        simp only [fnOf, ev_seq, ev_asg, sBnd_def, ev_op, ev_un, bnd_def, ev_call, evs_cons, evs_nil, ev_var, ev_c, ev_if, ev_next, ev_expr, ev_tru, ev_bl, ev_and, ev_or, ev_not, ev_yes, ev_andE, ev_orE, ev_notE, ev_ifE, ev_chain, ofB_some, ofO_some, ofO_none, truD_non, truD_bl, truD_int, truD_str, truD_tup, truD_lst, truD_lsk, ev_tup, ev_lst, ev_nwF, ev_nwM, ev_meth, ev_make, ev_fld, ev_setF, ev_bm1, asQ_tup, asQ_lst, asQ_lsk, asL_lst, asL_lsk, dLen_tup, dLen_lst, dLen_lsk, dLen_str, dIx_tup, dIx_lst, dIx_lsk, dIx_str, dAdd_int, dNeg_int, isN_def, notN_def, isNon_non, isNon_int, isNon_bl, isNon_str, isNon_tup, isNon_lst, isNon_obj, isNon_exc, dEq_int, dNe_int, dEq_str, dNe_str, dEq_bl, atI_zero, atI_one, atI_2, atI_3, atI_4, atI_5, atI_6, atI_7, atI_8, atI_9, atI_10, atI_11, atI_12, atI_m1, ev_gT, setAll_nil, setAll_cons, iOp_int, ev_gN, ev_ret, List.map_cons, List.map_nil, List.length_cons, List.length_nil, rep_zero, rep_succ, List.cons_append, List.nil_append, List.getElem?_cons_zero, List.getElem?_cons_succ, List.set_cons_zero, List.set_cons_succ, Nat.sub_self, Nat.reduceAdd, Nat.reduceSub, Option.map_some, Option.bind_some, if_true, Bool.not_true, Bool.not_false, Bool.false_eq_true, if_false, decide_true, decide_false, Int.reduceBEq, Int.reduceEq, Int.reduceLT, Int.reduceLE, Int.reduceNeg, Int.reduceAdd, Int.reduceSub, Int.reduceMul, Int.reduceToNat, Nat.reduceLT, Nat.reduceLeDiff, beq_self_eq_true, reduceIte, eq_self, Int.reduceNe, Int.reduceBNe, not_true_eq_false, not_false_eq_true, true_and, and_true, true_or, or_true, false_or, or_false, and_false, false_and, decide_eq_true_eq, Bool.true_and, Bool.and_true, Bool.false_and, Bool.and_false, Bool.true_or, Bool.or_true, Bool.false_or, Bool.or_false, dLe, dLt, h2, h3, dNotIn_three, b1, b2, b3]
        unfold lsg
        rw [a1, a2]; rfl
      · have a2 : decide (c < 127) = false := decide_eq_false (by omega)
        simp only [fnOf, ev_seq, ev_asg, sBnd_def, ev_op, ev_un, bnd_def, ev_call, evs_cons, evs_nil, ev_var, ev_c, ev_if, ev_next, ev_expr, ev_tru, ev_bl, ev_and, ev_or, ev_not, ev_yes, ev_andE, ev_orE, ev_notE, ev_ifE, ev_chain, ofB_some, ofO_some, ofO_none, truD_non, truD_bl, truD_int, truD_str, truD_tup, truD_lst, truD_lsk, ev_tup, ev_lst, ev_nwF, ev_nwM, ev_meth, ev_make, ev_fld, ev_setF, ev_bm1, asQ_tup, asQ_lst, asQ_lsk, asL_lst, asL_lsk, dLen_tup, dLen_lst, dLen_lsk, dLen_str, dIx_tup, dIx_lst, dIx_lsk, dIx_str, dAdd_int, dNeg_int, isN_def, notN_def, isNon_non, isNon_int, isNon_bl, isNon_str, isNon_tup, isNon_lst, isNon_obj, isNon_exc, dEq_int, dNe_int, dEq_str, dNe_str, dEq_bl, atI_zero, atI_one, atI_2, atI_3, atI_4, atI_5, atI_6, atI_7, atI_8, atI_9, atI_10, atI_11, atI_12, atI_m1, ev_gT, setAll_nil, setAll_cons, iOp_int, ev_gN, ev_ret, List.map_cons, List.map_nil, List.length_cons, List.length_nil, rep_zero, rep_succ, List.cons_append, List.nil_append, List.getElem?_cons_zero, List.getElem?_cons_succ, List.set_cons_zero, List.set_cons_succ, Nat.sub_self, Nat.reduceAdd, Nat.reduceSub, Option.map_some, Option.bind_some, if_true, Bool.not_true, Bool.not_false, Bool.false_eq_true, if_false, decide_true, decide_false, Int.reduceBEq, Int.reduceEq, Int.reduceLT, Int.reduceLE, Int.reduceNeg, Int.reduceAdd, Int.reduceSub, Int.reduceMul, Int.reduceToNat, Nat.reduceLT, Nat.reduceLeDiff, beq_self_eq_true, reduceIte, eq_self, Int.reduceNe, Int.reduceBNe, not_true_eq_false, not_false_eq_true, true_and, and_true, true_or, or_true, false_or, or_false, and_false, false_and, decide_eq_true_eq, Bool.true_and, Bool.and_true, Bool.false_and, Bool.and_false, Bool.true_or, Bool.or_true, Bool.false_or, Bool.or_false, dLe, dLt, h2, h3]
        unfold lsg
        rw [a1, a2]; rfl
    · have a1 : decide (32 ≤ c) = false := decide_eq_false (by omega)
      simp only [fnOf, ev_seq, ev_asg, sBnd_def, ev_op, ev_un, bnd_def, ev_call, evs_cons, evs_nil, ev_var, ev_c, ev_if, ev_next, ev_expr, ev_tru, ev_bl, ev_and, ev_or, ev_not, ev_yes, ev_andE, ev_orE, ev_notE, ev_ifE, ev_chain, ofB_some, ofO_some, ofO_none, truD_non, truD_bl, truD_int, truD_str, truD_tup, truD_lst, truD_lsk, ev_tup, ev_lst, ev_nwF, ev_nwM, ev_meth, ev_make, ev_fld, ev_setF, ev_bm1, asQ_tup, asQ_lst, asQ_lsk, asL_lst, asL_lsk, dLen_tup, dLen_lst, dLen_lsk, dLen_str, dIx_tup, dIx_lst, dIx_lsk, dIx_str, dAdd_int, dNeg_int, isN_def, notN_def, isNon_non, isNon_int, isNon_bl, isNon_str, isNon_tup, isNon_lst, isNon_obj, isNon_exc, dEq_int, dNe_int, dEq_str, dNe_str, dEq_bl, atI_zero, atI_one, atI_2, atI_3, atI_4, atI_5, atI_6, atI_7, atI_8, atI_9, atI_10, atI_11, atI_12, atI_m1, ev_gT, setAll_nil, setAll_cons, iOp_int, ev_gN, ev_ret, List.map_cons, List.map_nil, List.length_cons, List.length_nil, rep_zero, rep_succ, List.cons_append, List.nil_append, List.getElem?_cons_zero, List.getElem?_cons_succ, List.set_cons_zero, List.set_cons_succ, Nat.sub_self, Nat.reduceAdd, Nat.reduceSub, Option.map_some, Option.bind_some, if_true, Bool.not_true, Bool.not_false, Bool.false_eq_true, if_false, decide_true, decide_false, Int.reduceBEq, Int.reduceEq, Int.reduceLT, Int.reduceLE, Int.reduceNeg, Int.reduceAdd, Int.reduceSub, Int.reduceMul, Int.reduceToNat, Nat.reduceLT, Nat.reduceLeDiff, beq_self_eq_true, reduceIte, eq_self, Int.reduceNe, Int.reduceBNe, not_true_eq_false, not_false_eq_true, true_and, and_true, true_or, or_true, false_or, or_false, and_false, false_and, decide_eq_true_eq, Bool.true_and, Bool.and_true, Bool.false_and, Bool.and_false, Bool.true_or, Bool.or_true, Bool.false_or, Bool.or_false, dLe, dLt, h2]
      unfold lsg
      rw [a1]; rfl
  unfold m_law_is_level b_law_is_level
  by_cases h : l.length < 13
  · have h1 : (l.length : Int) < 13 := by omega
    have hl : ll l = l.all lsg := by unfold ll; rw [decide_eq_true h, Bool.true_and]
    simp only [fnOf, ev_seq, ev_asg, sBnd_def, ev_op, ev_un, bnd_def, ev_call, evs_cons, evs_nil, ev_var, ev_c, ev_if, ev_next, ev_expr, ev_tru, ev_bl, ev_and, ev_or, ev_not, ev_yes, ev_andE, ev_orE, ev_notE, ev_ifE, ev_chain, ofB_some, ofO_some, ofO_none, truD_non, truD_bl, truD_int, truD_str, truD_tup, truD_lst, truD_lsk, ev_tup, ev_lst, ev_nwF, ev_nwM, ev_meth, ev_make, ev_fld, ev_setF, ev_bm1, asQ_tup, asQ_lst, asQ_lsk, asL_lst, asL_lsk, dLen_tup, dLen_lst, dLen_lsk, dLen_str, dIx_tup, dIx_lst, dIx_lsk, dIx_str, dAdd_int, dNeg_int, isN_def, notN_def, isNon_non, isNon_int, isNon_bl, isNon_str, isNon_tup, isNon_lst, isNon_obj, isNon_exc, dEq_int, dNe_int, dEq_str, dNe_str, dEq_bl, atI_zero, atI_one, atI_2, atI_3, atI_4, atI_5, atI_6, atI_7, atI_8, atI_9, atI_10, atI_11, atI_12, atI_m1, ev_gT, setAll_nil, setAll_cons, iOp_int, ev_gN, ev_ret, List.map_cons, List.map_nil, List.length_cons, List.length_nil, rep_zero, rep_succ, List.cons_append, List.nil_append, List.getElem?_cons_zero, List.getElem?_cons_succ, List.set_cons_zero, List.set_cons_succ, Nat.sub_self, Nat.reduceAdd, Nat.reduceSub, Option.map_some, Option.bind_some, if_true, Bool.not_true, Bool.not_false, Bool.false_eq_true, if_false, decide_true, decide_false, Int.reduceBEq, Int.reduceEq, Int.reduceLT, Int.reduceLE, Int.reduceNeg, Int.reduceAdd, Int.reduceSub, Int.reduceMul, Int.reduceToNat, Nat.reduceLT, Nat.reduceLeDiff, beq_self_eq_true, reduceIte, eq_self, Int.reduceNe, Int.reduceBNe, not_true_eq_false, not_false_eq_true, true_and, and_true, true_or, or_true, false_or, or_false, and_false, false_and, decide_eq_true_eq, Bool.true_and, Bool.and_true, Bool.false_and, Bool.and_false, Bool.true_or, Bool.or_true, Bool.false_or, Bool.or_false, ev_lc, ev_iSeq, signs_mk, wipeD_nil, wipeD_cons, bndN, e1, mkS_len, dLt, h1, e2, dAll_map, hl]
  · have h1 : ¬ (l.length : Int) < 13 := by omega
    have hl : ll l = false := by unfold ll; rw [decide_eq_false h, Bool.false_and]
    simp only [fnOf, ev_seq, ev_asg, sBnd_def, ev_op, ev_un, bnd_def, ev_call, evs_cons, evs_nil, ev_var, ev_c, ev_if, ev_next, ev_expr, ev_tru, ev_bl, ev_and, ev_or, ev_not, ev_yes, ev_andE, ev_orE, ev_notE, ev_ifE, ev_chain, ofB_some, ofO_some, ofO_none, truD_non, truD_bl, truD_int, truD_str, truD_tup, truD_lst, truD_lsk, ev_tup, ev_lst, ev_nwF, ev_nwM, ev_meth, ev_make, ev_fld, ev_setF, ev_bm1, asQ_tup, asQ_lst, asQ_lsk, asL_lst, asL_lsk, dLen_tup, dLen_lst, dLen_lsk, dLen_str, dIx_tup, dIx_lst, dIx_lsk, dIx_str, dAdd_int, dNeg_int, isN_def, notN_def, isNon_non, isNon_int, isNon_bl, isNon_str, isNon_tup, isNon_lst, isNon_obj, isNon_exc, dEq_int, dNe_int, dEq_str, dNe_str, dEq_bl, atI_zero, atI_one, atI_2, atI_3, atI_4, atI_5, atI_6, atI_7, atI_8, atI_9, atI_10, atI_11, atI_12, atI_m1, ev_gT, setAll_nil, setAll_cons, iOp_int, ev_gN, ev_ret, List.map_cons, List.map_nil, List.length_cons, List.length_nil, rep_zero, rep_succ, List.cons_append, List.nil_append, List.getElem?_cons_zero, List.getElem?_cons_succ, List.set_cons_zero, List.set_cons_succ, Nat.sub_self, Nat.reduceAdd, Nat.reduceSub, Option.map_some, Option.bind_some, if_true, Bool.not_true, Bool.not_false, Bool.false_eq_true, if_false, decide_true, decide_false, Int.reduceBEq, Int.reduceEq, Int.reduceLT, Int.reduceLE, Int.reduceNeg, Int.reduceAdd, Int.reduceSub, Int.reduceMul, Int.reduceToNat, Nat.reduceLT, Nat.reduceLeDiff, beq_self_eq_true, reduceIte, eq_self, Int.reduceNe, Int.reduceBNe, not_true_eq_false, not_false_eq_true, true_and, and_true, true_or, or_true, false_or, or_false, and_false, false_and, decide_eq_true_eq, Bool.true_and, Bool.and_true, Bool.false_and, Bool.and_false, Bool.true_or, Bool.or_true, Bool.false_or, Bool.or_false, ev_lc, ev_iSeq, signs_mk, wipeD_nil, wipeD_cons, bndN, e1, mkS_len, dLt, h1, hl]
theorem all_ll (l : List Nat) : (splC 47 l).all ll = (splC 47 l).all gl := by
  rw [Bool.eq_iff_iff, List.all_eq_true, List.all_eq_true]
  constructor
  · intro k p hp
    rw [← ll_gl (splC_free 47 l p hp)]
    exact k p hp
  · intro k p hp
    rw [ll_gl (splC_free 47 l p hp)]
    exact k p hp
theorem putAt_last {s : Sto} {i : Nat} {l : List Dt} {z v : Dt} (h : s[i]? = some (.lst (l ++ [z]))) : Pd.putAt (.obj i) (.int (-1)) v s = some (s.set i (.lst (l ++ [v]))) := by
  have e : ixN (l ++ [z]).length (-1) = some l.length := by
    unfold ixN
    rw [if_neg (by decide), List.length_append, List.length_singleton, if_pos (by omega)]
    congr 1
    omega
  simp only [Pd.putAt, lstAt_obj h, e, Option.map_some]
  rw [List.set_append_right _ _ (Nat.le_refl _), Nat.sub_self]
  rfl
theorem ev_law_is_wish (l : List Nat) (s : Sto) : ∃ m, m_law_is_wish [.str (mkS l)] s = .ok (.bl (isWish l)) (s ++ [m]) := by
  obtain ⟨z, hz⟩ := splC_last_ne l
  obtain ⟨ds, hd⟩ := List.getLast?_eq_some_iff.mp hz
  -- the levels as they stand in the end
  have key : ∀ (zs : List (List Nat)), zs.length = (splC 47 l).length → (zs.all fun p => p == [43] || ll p) = (plain (splC 47 l)).all gw → ∀ s' : Sto, s'[s.length]? = some (.lst (lvs zs)) → 
      (sRet (eAnd (eOp dNe (eVar 0) (eC (.str (mkS [])))) (eAnd (eOp dLt (eUn dLen (eVar 1)) (eC (.int 9))) (eUn dAll (eLc nwF [2] (iSeq (eVar 1)) (gN 2) (Pd.tYes) (eOr (eOp dEq (eVar 2) (eC (.str (mkS [43])))) (eCall m_law_is_level [eVar 2]))))))) [some (.str (mkS l)), some (.obj s.length), none] s' = .fl (.rt (.bl (isWish l))) s' := fun zs hzl hall s' hs' => by
    have g1 := dLen_obj hs'
    have g2 := asQ_obj hs'
    have e3 : lcGo (gN 2) Pd.tYes (eOr (eOp dEq (eVar 2) (eC (.str (mkS [43])))) (eCall m_law_is_level [eVar 2])) (fun s'' => asQ s'' (.obj s.length) = some (lvs zs)) (lvs zs) [some (.str (mkS l)), some (.obj s.length), none] s' = .ok (zs.map fun p => .bl (p == [43] || ll p)) s' := by
      refine lc_map ?_ fun p _ => ⟨[some (.str (mkS l)), some (.obj s.length), some (.str (mkS p))], rfl, rfl, ?_⟩
      · exact g2
      cases hp : (p == [43]) with
      | true => simp only [fnOf, ev_seq, ev_asg, sBnd_def, ev_op, ev_un, bnd_def, ev_call, evs_cons, evs_nil, ev_var, ev_c, ev_if, ev_next, ev_expr, ev_tru, ev_bl, ev_and, ev_or, ev_not, ev_yes, ev_andE, ev_orE, ev_notE, ev_ifE, ev_chain, ofB_some, ofO_some, ofO_none, truD_non, truD_bl, truD_int, truD_str, truD_tup, truD_lst, truD_lsk, ev_tup, ev_lst, ev_nwF, ev_nwM, ev_meth, ev_make, ev_fld, ev_setF, ev_bm1, asQ_tup, asQ_lst, asQ_lsk, asL_lst, asL_lsk, dLen_tup, dLen_lst, dLen_lsk, dLen_str, dIx_tup, dIx_lst, dIx_lsk, dIx_str, dAdd_int, dNeg_int, isN_def, notN_def, isNon_non, isNon_int, isNon_bl, isNon_str, isNon_tup, isNon_lst, isNon_obj, isNon_exc, dEq_int, dNe_int, dEq_str, dNe_str, dEq_bl, atI_zero, atI_one, atI_2, atI_3, atI_4, atI_5, atI_6, atI_7, atI_8, atI_9, atI_10, atI_11, atI_12, atI_m1, ev_gT, setAll_nil, setAll_cons, iOp_int, ev_gN, ev_ret, List.map_cons, List.map_nil, List.length_cons, List.length_nil, rep_zero, rep_succ, List.cons_append, List.nil_append, List.getElem?_cons_zero, List.getElem?_cons_succ, List.set_cons_zero, List.set_cons_succ, Nat.sub_self, Nat.reduceAdd, Nat.reduceSub, Option.map_some, Option.bind_some, if_true, Bool.not_true, Bool.not_false, Bool.false_eq_true, if_false, decide_true, decide_false, Int.reduceBEq, Int.reduceEq, Int.reduceLT, Int.reduceLE, Int.reduceNeg, Int.reduceAdd, Int.reduceSub, Int.reduceMul, Int.reduceToNat, Nat.reduceLT, Nat.reduceLeDiff, beq_self_eq_true, reduceIte, eq_self, Int.reduceNe, Int.reduceBNe, not_true_eq_false, not_false_eq_true, true_and, and_true, true_or, or_true, false_or, or_false, and_false, false_and, decide_eq_true_eq, Bool.true_and, Bool.and_true, Bool.false_and, Bool.and_false, Bool.true_or, Bool.or_true, Bool.false_or, Bool.or_false, ev_law_is_level, mkS_beq, hp]
      | false => simp only [fnOf, ev_seq, ev_asg, sBnd_def, ev_op, ev_un, bnd_def, ev_call, evs_cons, evs_nil, ev_var, ev_c, ev_if, ev_next, ev_expr, ev_tru, ev_bl, ev_and, ev_or, ev_not, ev_yes, ev_andE, ev_orE, ev_notE, ev_ifE, ev_chain, ofB_some, ofO_some, ofO_none, truD_non, truD_bl, truD_int, truD_str, truD_tup, truD_lst, truD_lsk, ev_tup, ev_lst, ev_nwF, ev_nwM, ev_meth, ev_make, ev_fld, ev_setF, ev_bm1, asQ_tup, asQ_lst, asQ_lsk, asL_lst, asL_lsk, dLen_tup, dLen_lst, dLen_lsk, dLen_str, dIx_tup, dIx_lst, dIx_lsk, dIx_str, dAdd_int, dNeg_int, isN_def, notN_def, isNon_non, isNon_int, isNon_bl, isNon_str, isNon_tup, isNon_lst, isNon_obj, isNon_exc, dEq_int, dNe_int, dEq_str, dNe_str, dEq_bl, atI_zero, atI_one, atI_2, atI_3, atI_4, atI_5, atI_6, atI_7, atI_8, atI_9, atI_10, atI_11, atI_12, atI_m1, ev_gT, setAll_nil, setAll_cons, iOp_int, ev_gN, ev_ret, List.map_cons, List.map_nil, List.length_cons, List.length_nil, rep_zero, rep_succ, List.cons_append, List.nil_append, List.getElem?_cons_zero, List.getElem?_cons_succ, List.set_cons_zero, List.set_cons_succ, Nat.sub_self, Nat.reduceAdd, Nat.reduceSub, Option.map_some, Option.bind_some, if_true, Bool.not_true, Bool.not_false, Bool.false_eq_true, if_false, decide_true, decide_false, Int.reduceBEq, Int.reduceEq, Int.reduceLT, Int.reduceLE, Int.reduceNeg, Int.reduceAdd, Int.reduceSub, Int.reduceMul, Int.reduceToNat, Nat.reduceLT, Nat.reduceLeDiff, beq_self_eq_true, reduceIte, eq_self, Int.reduceNe, Int.reduceBNe, not_true_eq_false, not_false_eq_true, true_and, and_true, true_or, or_true, false_or, or_false, and_false, false_and, decide_eq_true_eq, Bool.true_and, Bool.and_true, Bool.false_and, Bool.and_false, Bool.true_or, Bool.or_true, Bool.false_or, Bool.or_false, ev_law_is_level, mkS_beq, hp]
    by_cases h1 : (l == []) = true
    · have hn : isWish l = false := by unfold isWish; rw [h1]; rfl
      simp only [fnOf, ev_seq, ev_asg, sBnd_def, ev_op, ev_un, bnd_def, ev_call, evs_cons, evs_nil, ev_var, ev_c, ev_if, ev_next, ev_expr, ev_tru, ev_bl, ev_and, ev_or, ev_not, ev_yes, ev_andE, ev_orE, ev_notE, ev_ifE, ev_chain, ofB_some, ofO_some, ofO_none, truD_non, truD_bl, truD_int, truD_str, truD_tup, truD_lst, truD_lsk, ev_tup, ev_lst, ev_nwF, ev_nwM, ev_meth, ev_make, ev_fld, ev_setF, ev_bm1, asQ_tup, asQ_lst, asQ_lsk, asL_lst, asL_lsk, dLen_tup, dLen_lst, dLen_lsk, dLen_str, dIx_tup, dIx_lst, dIx_lsk, dIx_str, dAdd_int, dNeg_int, isN_def, notN_def, isNon_non, isNon_int, isNon_bl, isNon_str, isNon_tup, isNon_lst, isNon_obj, isNon_exc, dEq_int, dNe_int, dEq_str, dNe_str, dEq_bl, atI_zero, atI_one, atI_2, atI_3, atI_4, atI_5, atI_6, atI_7, atI_8, atI_9, atI_10, atI_11, atI_12, atI_m1, ev_gT, setAll_nil, setAll_cons, iOp_int, ev_gN, ev_ret, List.map_cons, List.map_nil, List.length_cons, List.length_nil, rep_zero, rep_succ, List.cons_append, List.nil_append, List.getElem?_cons_zero, List.getElem?_cons_succ, List.set_cons_zero, List.set_cons_succ, Nat.sub_self, Nat.reduceAdd, Nat.reduceSub, Option.map_some, Option.bind_some, if_true, Bool.not_true, Bool.not_false, Bool.false_eq_true, if_false, decide_true, decide_false, Int.reduceBEq, Int.reduceEq, Int.reduceLT, Int.reduceLE, Int.reduceNeg, Int.reduceAdd, Int.reduceSub, Int.reduceMul, Int.reduceToNat, Nat.reduceLT, Nat.reduceLeDiff, beq_self_eq_true, reduceIte, eq_self, Int.reduceNe, Int.reduceBNe, not_true_eq_false, not_false_eq_true, true_and, and_true, true_or, or_true, false_or, or_false, and_false, false_and, decide_eq_true_eq, Bool.true_and, Bool.and_true, Bool.false_and, Bool.and_false, Bool.true_or, Bool.or_true, Bool.false_or, Bool.or_false, mkS_beq, h1, hn]
    · have h1' : (l == []) = false := by simpa using h1
      by_cases h2 : (splC 47 l).length ≤ 8
      · have g3 : ((lvs zs).length : Int) < 9 := by rw [List.length_map]; omega
        have hn : isWish l = (plain (splC 47 l)).all gw := by unfold isWish; rw [h1', decide_eq_true h2]; rfl
        simp only [fnOf, ev_seq, ev_asg, sBnd_def, ev_op, ev_un, bnd_def, ev_call, evs_cons, evs_nil, ev_var, ev_c, ev_if, ev_next, ev_expr, ev_tru, ev_bl, ev_and, ev_or, ev_not, ev_yes, ev_andE, ev_orE, ev_notE, ev_ifE, ev_chain, ofB_some, ofO_some, ofO_none, truD_non, truD_bl, truD_int, truD_str, truD_tup, truD_lst, truD_lsk, ev_tup, ev_lst, ev_nwF, ev_nwM, ev_meth, ev_make, ev_fld, ev_setF, ev_bm1, asQ_tup, asQ_lst, asQ_lsk, asL_lst, asL_lsk, dLen_tup, dLen_lst, dLen_lsk, dLen_str, dIx_tup, dIx_lst, dIx_lsk, dIx_str, dAdd_int, dNeg_int, isN_def, notN_def, isNon_non, isNon_int, isNon_bl, isNon_str, isNon_tup, isNon_lst, isNon_obj, isNon_exc, dEq_int, dNe_int, dEq_str, dNe_str, dEq_bl, atI_zero, atI_one, atI_2, atI_3, atI_4, atI_5, atI_6, atI_7, atI_8, atI_9, atI_10, atI_11, atI_12, atI_m1, ev_gT, setAll_nil, setAll_cons, iOp_int, ev_gN, ev_ret, List.map_cons, List.map_nil, List.length_cons, List.length_nil, rep_zero, rep_succ, List.cons_append, List.nil_append, List.getElem?_cons_zero, List.getElem?_cons_succ, List.set_cons_zero, List.set_cons_succ, Nat.sub_self, Nat.reduceAdd, Nat.reduceSub, Option.map_some, Option.bind_some, if_true, Bool.not_true, Bool.not_false, Bool.false_eq_true, if_false, decide_true, decide_false, Int.reduceBEq, Int.reduceEq, Int.reduceLT, Int.reduceLE, Int.reduceNeg, Int.reduceAdd, Int.reduceSub, Int.reduceMul, Int.reduceToNat, Nat.reduceLT, Nat.reduceLeDiff, beq_self_eq_true, reduceIte, eq_self, Int.reduceNe, Int.reduceBNe, not_true_eq_false, not_false_eq_true, true_and, and_true, true_or, or_true, false_or, or_false, and_false, false_and, decide_eq_true_eq, Bool.true_and, Bool.and_true, Bool.false_and, Bool.and_false, Bool.true_or, Bool.or_true, Bool.false_or, Bool.or_false, mkS_beq, h1', g1, dLt, g3, ev_lc, ev_iSeq, g2, wipeD_nil, wipeD_cons, bndN, e3, dAll_map, hn, hall]
      · have g3 : ¬ ((lvs zs).length : Int) < 9 := by rw [List.length_map]; omega
        have hn : isWish l = false := by unfold isWish; rw [h1', decide_eq_false h2]; rfl
        simp only [fnOf, ev_seq, ev_asg, sBnd_def, ev_op, ev_un, bnd_def, ev_call, evs_cons, evs_nil, ev_var, ev_c, ev_if, ev_next, ev_expr, ev_tru, ev_bl, ev_and, ev_or, ev_not, ev_yes, ev_andE, ev_orE, ev_notE, ev_ifE, ev_chain, ofB_some, ofO_some, ofO_none, truD_non, truD_bl, truD_int, truD_str, truD_tup, truD_lst, truD_lsk, ev_tup, ev_lst, ev_nwF, ev_nwM, ev_meth, ev_make, ev_fld, ev_setF, ev_bm1, asQ_tup, asQ_lst, asQ_lsk, asL_lst, asL_lsk, dLen_tup, dLen_lst, dLen_lsk, dLen_str, dIx_tup, dIx_lst, dIx_lsk, dIx_str, dAdd_int, dNeg_int, isN_def, notN_def, isNon_non, isNon_int, isNon_bl, isNon_str, isNon_tup, isNon_lst, isNon_obj, isNon_exc, dEq_int, dNe_int, dEq_str, dNe_str, dEq_bl, atI_zero, atI_one, atI_2, atI_3, atI_4, atI_5, atI_6, atI_7, atI_8, atI_9, atI_10, atI_11, atI_12, atI_m1, ev_gT, setAll_nil, setAll_cons, iOp_int, ev_gN, ev_ret, List.map_cons, List.map_nil, List.length_cons, List.length_nil, rep_zero, rep_succ, List.cons_append, List.nil_append, List.getElem?_cons_zero, List.getElem?_cons_succ, List.set_cons_zero, List.set_cons_succ, Nat.sub_self, Nat.reduceAdd, Nat.reduceSub, Option.map_some, Option.bind_some, if_true, Bool.not_true, Bool.not_false, Bool.false_eq_true, if_false, decide_true, decide_false, Int.reduceBEq, Int.reduceEq, Int.reduceLT, Int.reduceLE, Int.reduceNeg, Int.reduceAdd, Int.reduceSub, Int.reduceMul, Int.reduceToNat, Nat.reduceLT, Nat.reduceLeDiff, beq_self_eq_true, reduceIte, eq_self, Int.reduceNe, Int.reduceBNe, not_true_eq_false, not_false_eq_true, true_and, and_true, true_or, or_true, false_or, or_false, and_false, false_and, decide_eq_true_eq, Bool.true_and, Bool.and_true, Bool.false_and, Bool.and_false, Bool.true_or, Bool.or_true, Bool.false_or, Bool.or_false, mkS_beq, h1', g1, dLt, g3, hn]
  have allEq : ∀ ps : List (List Nat), (∀ p ∈ ps, p ∈ splC 47 l) → (ps.all fun p => p == [43] || ll p) = ps.all gw := fun ps hps => by
    rw [Bool.eq_iff_iff, List.all_eq_true, List.all_eq_true]
    constructor
    · intro k p hp
      unfold gw
      rw [← ll_gl (splC_free 47 l p (hps p hp))]
      exact k p hp
    · intro k p hp
      have := k p hp
      unfold gw at this
      rw [← ll_gl (splC_free 47 l p (hps p hp))] at this
      exact this
  have o1 : (s ++ [Mo.lst (lvs (splC 47 l))])[s.length]? = some (.lst (lvs (ds ++ [z]))) := by rw [hd]; simp
  have o2 : (s ++ [Mo.lst (lvs (splC 47 l))])[s.length]? = some (.lst (lvs ds ++ [.str (mkS z)])) := by rw [o1]; simp
  have g4 := dIx_obj (i := -1) o2
  have g5 : (lvs ds ++ [Dt.str (mkS z)]).getLast? = some (.str (mkS z)) := by simp
  by_cases hh : z = [35]
  · have hb : (z == [35]) = true := by simpa using hh
    have hp : plain (splC 47 l) = ds := by unfold plain; rw [hz, hh, if_pos rfl, hd]; simp
    have g6 := putAt_last (v := .str (mkS [97])) o2
    refine ⟨.lst (lvs (ds ++ [[97]])), ?_⟩
    have g7 : (s ++ [Mo.lst (lvs (splC 47 l))]).set s.length (.lst (lvs ds ++ [.str (mkS [97])])) = s ++ [Mo.lst (lvs (ds ++ [[97]]))] := by
      rw [List.set_append_right _ _ (Nat.le_refl _), Nat.sub_self]
      simp
    rw [g7] at g6
    have k := key (ds ++ [[97]]) (by rw [hd]; simp) (by
      rw [hp, List.all_append, allEq ds (fun p h => by rw [hd]; exact List.mem_append_left _ h)]
      have : ([[97]].all fun p : List Nat => p == [43] || ll p) = true := by decide
      rw [this, Bool.and_true]) (s ++ [Mo.lst (lvs (ds ++ [[97]]))]) (by simp)
    unfold m_law_is_wish b_law_is_wish
    simp only [ev_ret] at k
    simp only [fnOf, ev_seq, ev_asg, sBnd_def, ev_op, ev_un, bnd_def, ev_call, evs_cons, evs_nil, ev_var, ev_c, ev_if, ev_next, ev_expr, ev_tru, ev_bl, ev_and, ev_or, ev_not, ev_yes, ev_andE, ev_orE, ev_notE, ev_ifE, ev_chain, ofB_some, ofO_some, ofO_none, truD_non, truD_bl, truD_int, truD_str, truD_tup, truD_lst, truD_lsk, ev_tup, ev_lst, ev_nwF, ev_nwM, ev_meth, ev_make, ev_fld, ev_setF, ev_bm1, asQ_tup, asQ_lst, asQ_lsk, asL_lst, asL_lsk, dLen_tup, dLen_lst, dLen_lsk, dLen_str, dIx_tup, dIx_lst, dIx_lsk, dIx_str, dAdd_int, dNeg_int, isN_def, notN_def, isNon_non, isNon_int, isNon_bl, isNon_str, isNon_tup, isNon_lst, isNon_obj, isNon_exc, dEq_int, dNe_int, dEq_str, dNe_str, dEq_bl, atI_zero, atI_one, atI_2, atI_3, atI_4, atI_5, atI_6, atI_7, atI_8, atI_9, atI_10, atI_11, atI_12, atI_m1, ev_gT, setAll_nil, setAll_cons, iOp_int, ev_gN, ev_ret, List.map_cons, List.map_nil, List.length_cons, List.length_nil, rep_zero, rep_succ, List.cons_append, List.nil_append, List.getElem?_cons_zero, List.getElem?_cons_succ, List.set_cons_zero, List.set_cons_succ, Nat.sub_self, Nat.reduceAdd, Nat.reduceSub, Option.map_some, Option.bind_some, if_true, Bool.not_true, Bool.not_false, Bool.false_eq_true, if_false, decide_true, decide_false, Int.reduceBEq, Int.reduceEq, Int.reduceLT, Int.reduceLE, Int.reduceNeg, Int.reduceAdd, Int.reduceSub, Int.reduceMul, Int.reduceToNat, Nat.reduceLT, Nat.reduceLeDiff, beq_self_eq_true, reduceIte, eq_self, Int.reduceNe, Int.reduceBNe, not_true_eq_false, not_false_eq_true, true_and, and_true, true_or, or_true, false_or, or_false, and_false, false_and, decide_eq_true_eq, Bool.true_and, Bool.and_true, Bool.false_and, Bool.and_false, Bool.true_or, Bool.or_true, Bool.false_or, Bool.or_false, t_nil, mkS_beq] at k
    simp only [fnOf, ev_seq, ev_asg, sBnd_def, ev_op, ev_un, bnd_def, ev_call, evs_cons, evs_nil, ev_var, ev_c, ev_if, ev_next, ev_expr, ev_tru, ev_bl, ev_and, ev_or, ev_not, ev_yes, ev_andE, ev_orE, ev_notE, ev_ifE, ev_chain, ofB_some, ofO_some, ofO_none, truD_non, truD_bl, truD_int, truD_str, truD_tup, truD_lst, truD_lsk, ev_tup, ev_lst, ev_nwF, ev_nwM, ev_meth, ev_make, ev_fld, ev_setF, ev_bm1, asQ_tup, asQ_lst, asQ_lsk, asL_lst, asL_lsk, dLen_tup, dLen_lst, dLen_lsk, dLen_str, dIx_tup, dIx_lst, dIx_lsk, dIx_str, dAdd_int, dNeg_int, isN_def, notN_def, isNon_non, isNon_int, isNon_bl, isNon_str, isNon_tup, isNon_lst, isNon_obj, isNon_exc, dEq_int, dNe_int, dEq_str, dNe_str, dEq_bl, atI_zero, atI_one, atI_2, atI_3, atI_4, atI_5, atI_6, atI_7, atI_8, atI_9, atI_10, atI_11, atI_12, atI_m1, ev_gT, setAll_nil, setAll_cons, iOp_int, ev_gN, ev_ret, List.map_cons, List.map_nil, List.length_cons, List.length_nil, rep_zero, rep_succ, List.cons_append, List.nil_append, List.getElem?_cons_zero, List.getElem?_cons_succ, List.set_cons_zero, List.set_cons_succ, Nat.sub_self, Nat.reduceAdd, Nat.reduceSub, Option.map_some, Option.bind_some, if_true, Bool.not_true, Bool.not_false, Bool.false_eq_true, if_false, decide_true, decide_false, Int.reduceBEq, Int.reduceEq, Int.reduceLT, Int.reduceLE, Int.reduceNeg, Int.reduceAdd, Int.reduceSub, Int.reduceMul, Int.reduceToNat, Nat.reduceLT, Nat.reduceLeDiff, beq_self_eq_true, reduceIte, eq_self, Int.reduceNe, Int.reduceBNe, not_true_eq_false, not_false_eq_true, true_and, and_true, true_or, or_true, false_or, or_false, and_false, false_and, decide_eq_true_eq, Bool.true_and, Bool.and_true, Bool.false_and, Bool.and_false, Bool.true_or, Bool.or_true, Bool.false_or, Bool.or_false, t_slash, t_hash, t_plus, t_nil, t_a, isStr_str, dSplit_mk, g4, g5, mkS_beq, hb, ev_setI, g6, k]
  · have hb : (z == [35]) = false := by simpa using hh
    have hp : plain (splC 47 l) = splC 47 l := by unfold plain; rw [hz, if_neg (fun h => hh (Option.some.inj h))]
    refine ⟨.lst (lvs (splC 47 l)), ?_⟩
    have k := key (splC 47 l) rfl (by rw [hp, allEq _ (fun p h => h)]) (s ++ [Mo.lst (lvs (splC 47 l))]) (by simp)
    unfold m_law_is_wish b_law_is_wish
    simp only [ev_ret] at k
    simp only [fnOf, ev_seq, ev_asg, sBnd_def, ev_op, ev_un, bnd_def, ev_call, evs_cons, evs_nil, ev_var, ev_c, ev_if, ev_next, ev_expr, ev_tru, ev_bl, ev_and, ev_or, ev_not, ev_yes, ev_andE, ev_orE, ev_notE, ev_ifE, ev_chain, ofB_some, ofO_some, ofO_none, truD_non, truD_bl, truD_int, truD_str, truD_tup, truD_lst, truD_lsk, ev_tup, ev_lst, ev_nwF, ev_nwM, ev_meth, ev_make, ev_fld, ev_setF, ev_bm1, asQ_tup, asQ_lst, asQ_lsk, asL_lst, asL_lsk, dLen_tup, dLen_lst, dLen_lsk, dLen_str, dIx_tup, dIx_lst, dIx_lsk, dIx_str, dAdd_int, dNeg_int, isN_def, notN_def, isNon_non, isNon_int, isNon_bl, isNon_str, isNon_tup, isNon_lst, isNon_obj, isNon_exc, dEq_int, dNe_int, dEq_str, dNe_str, dEq_bl, atI_zero, atI_one, atI_2, atI_3, atI_4, atI_5, atI_6, atI_7, atI_8, atI_9, atI_10, atI_11, atI_12, atI_m1, ev_gT, setAll_nil, setAll_cons, iOp_int, ev_gN, ev_ret, List.map_cons, List.map_nil, List.length_cons, List.length_nil, rep_zero, rep_succ, List.cons_append, List.nil_append, List.getElem?_cons_zero, List.getElem?_cons_succ, List.set_cons_zero, List.set_cons_succ, Nat.sub_self, Nat.reduceAdd, Nat.reduceSub, Option.map_some, Option.bind_some, if_true, Bool.not_true, Bool.not_false, Bool.false_eq_true, if_false, decide_true, decide_false, Int.reduceBEq, Int.reduceEq, Int.reduceLT, Int.reduceLE, Int.reduceNeg, Int.reduceAdd, Int.reduceSub, Int.reduceMul, Int.reduceToNat, Nat.reduceLT, Nat.reduceLeDiff, beq_self_eq_true, reduceIte, eq_self, Int.reduceNe, Int.reduceBNe, not_true_eq_false, not_false_eq_true, true_and, and_true, true_or, or_true, false_or, or_false, and_false, false_and, decide_eq_true_eq, Bool.true_and, Bool.and_true, Bool.false_and, Bool.and_false, Bool.true_or, Bool.or_true, Bool.false_or, Bool.or_false, t_nil, mkS_beq] at k
    simp only [fnOf, ev_seq, ev_asg, sBnd_def, ev_op, ev_un, bnd_def, ev_call, evs_cons, evs_nil, ev_var, ev_c, ev_if, ev_next, ev_expr, ev_tru, ev_bl, ev_and, ev_or, ev_not, ev_yes, ev_andE, ev_orE, ev_notE, ev_ifE, ev_chain, ofB_some, ofO_some, ofO_none, truD_non, truD_bl, truD_int, truD_str, truD_tup, truD_lst, truD_lsk, ev_tup, ev_lst, ev_nwF, ev_nwM, ev_meth, ev_make, ev_fld, ev_setF, ev_bm1, asQ_tup, asQ_lst, asQ_lsk, asL_lst, asL_lsk, dLen_tup, dLen_lst, dLen_lsk, dLen_str, dIx_tup, dIx_lst, dIx_lsk, dIx_str, dAdd_int, dNeg_int, isN_def, notN_def, isNon_non, isNon_int, isNon_bl, isNon_str, isNon_tup, isNon_lst, isNon_obj, isNon_exc, dEq_int, dNe_int, dEq_str, dNe_str, dEq_bl, atI_zero, atI_one, atI_2, atI_3, atI_4, atI_5, atI_6, atI_7, atI_8, atI_9, atI_10, atI_11, atI_12, atI_m1, ev_gT, setAll_nil, setAll_cons, iOp_int, ev_gN, ev_ret, List.map_cons, List.map_nil, List.length_cons, List.length_nil, rep_zero, rep_succ, List.cons_append, List.nil_append, List.getElem?_cons_zero, List.getElem?_cons_succ, List.set_cons_zero, List.set_cons_succ, Nat.sub_self, Nat.reduceAdd, Nat.reduceSub, Option.map_some, Option.bind_some, if_true, Bool.not_true, Bool.not_false, Bool.false_eq_true, if_false, decide_true, decide_false, Int.reduceBEq, Int.reduceEq, Int.reduceLT, Int.reduceLE, Int.reduceNeg, Int.reduceAdd, Int.reduceSub, Int.reduceMul, Int.reduceToNat, Nat.reduceLT, Nat.reduceLeDiff, beq_self_eq_true, reduceIte, eq_self, Int.reduceNe, Int.reduceBNe, not_true_eq_false, not_false_eq_true, true_and, and_true, true_or, or_true, false_or, or_false, and_false, false_and, decide_eq_true_eq, Bool.true_and, Bool.and_true, Bool.false_and, Bool.and_false, Bool.true_or, Bool.or_true, Bool.false_or, Bool.or_false, t_slash, t_hash, t_plus, t_nil, t_a, isStr_str, dSplit_mk, g4, g5, mkS_beq, hb, k]
theorem gw_ne {p : List Nat} (h : gw p = true) : p ≠ [35] := fun e => by
  subst e
  exact absurd h (by decide)
/-- a wish's levels -/
theorem wish_parts {w : List Nat} (h : isWish w = true) : (∀ p ∈ plain (splC 47 w), gw p = true) ∧ (splC 47 w).length ≤ 8 ∧ w ≠ [] := by
  unfold isWish at h
  simp only [Bool.and_eq_true, decide_eq_true_eq] at h
  exact ⟨List.all_eq_true.mp h.2, h.1.2, by simpa using h.1.1⟩
theorem pre_head (l : List Nat) {q : List Nat} {qs : List (List Nat)} (h : splC 47 l = q :: qs) : TL.pre [36] l = (q.take 1 == [36]) := by
  cases l with
  | nil =>
    simp only [splC, List.cons.injEq] at h
    rw [← h.1]; rfl
  | cons c r =>
    by_cases hc : c = 47
    · subst hc
      rw [splC_hit] at h
      simp only [List.cons.injEq] at h
      rw [← h.1]; rfl
    · obtain ⟨p, t, e1, e2⟩ := splC_miss r hc
      rw [e2] at h
      simp only [List.cons.injEq] at h
      rw [← h.1]; rfl
theorem t_B : Str.ofString "B" = mkS [66] := by decide +kernel
theorem t_b2 : Str.ofString "b2" = mkS [98, 50] := by decide +kernel
theorem t_b : Str.ofString "b" = mkS [98] := by decide +kernel
theorem t_c : Str.ofString "c" = mkS [99] := by decide +kernel
theorem t_dd : Str.ofString "dd" = mkS [100, 100] := by decide +kernel
theorem t_none : Str.ofString "none" = mkS [110, 111, 110, 101] := by decide +kernel
theorem t_ds : Str.ofString "$s" = mkS [36, 115] := by decide +kernel
theorem t_zz : Str.ofString "zz" = mkS [122, 122] := by decide +kernel
theorem t_ab : Str.ofString "a/b" = mkS [97, 47, 98] := by decide +kernel
theorem t_apl : Str.ofString "a+" = mkS [97, 43] := by decide +kernel
theorem t_hsa : Str.ofString "#/a" = mkS [35, 47, 97] := by decide +kernel
theorem t_abh : Str.ofString "a/b#" = mkS [97, 47, 98, 35] := by decide +kernel
theorem t_aspl : Str.ofString "a/+" = mkS [97, 47, 43] := by decide +kernel
theorem t_name : Str.ofString "name" = mkS [110, 97, 109, 101] := by decide +kernel
/-! ### hearers and grades -/
abbrev smalls : List Nat := [97, 98, 99, 100, 101, 102, 103, 104, 105, 106, 107, 108, 109, 110, 111, 112, 113, 114, 115, 116, 117, 118, 119, 120, 121, 122, 48, 49, 50, 51, 52, 53, 54, 55, 56, 57]
theorem t_small : Str.ofString "abcdefghijklmnopqrstuvwxyz0123456789" = mkS smalls := by decide +kernel
def isHearer (l : List Nat) : Bool := decide (1 ≤ l.length ∧ l.length ≤ 12) && l.all fun c => decide (c ∈ smalls)
theorem ev_look_hearer (l : List Nat) (s : Sto) : m_look_hearer [.str (mkS l)] s = if isHearer l = true then .ok .non s else .exc 3 s := by
  have e3 : lcGo (gN 1) Pd.tYes (eOp dIn (eVar 1) (eC (.str (mkS smalls)))) (fun _ => True) (l.map fun c => .str (mkS [c])) [some (.str (mkS l)), none] s = .ok (l.map fun c => .bl (decide (c ∈ smalls))) s := by
    refine lc_map trivial fun c _ => ⟨[some (.str (mkS l)), some (.str (mkS [c]))], rfl, rfl, ?_⟩
    simp only [fnOf, ev_seq, ev_asg, sBnd_def, ev_op, ev_un, bnd_def, ev_call, evs_cons, evs_nil, ev_var, ev_c, ev_if, ev_next, ev_expr, ev_tru, ev_bl, ev_and, ev_or, ev_not, ev_yes, ev_andE, ev_orE, ev_notE, ev_ifE, ev_chain, ofB_some, ofO_some, ofO_none, truD_non, truD_bl, truD_int, truD_str, truD_tup, truD_lst, truD_lsk, ev_tup, ev_lst, ev_nwF, ev_nwM, ev_meth, ev_make, ev_fld, ev_setF, ev_bm1, asQ_tup, asQ_lst, asQ_lsk, asL_lst, asL_lsk, dLen_tup, dLen_lst, dLen_lsk, dLen_str, dIx_tup, dIx_lst, dIx_lsk, dIx_str, dAdd_int, dNeg_int, isN_def, notN_def, isNon_non, isNon_int, isNon_bl, isNon_str, isNon_tup, isNon_lst, isNon_obj, isNon_exc, dEq_int, dNe_int, dEq_str, dNe_str, dEq_bl, atI_zero, atI_one, atI_2, atI_3, atI_4, atI_5, atI_6, atI_7, atI_8, atI_9, atI_10, atI_11, atI_12, atI_m1, ev_gT, setAll_nil, setAll_cons, iOp_int, ev_gN, ev_ret, List.map_cons, List.map_nil, List.length_cons, List.length_nil, rep_zero, rep_succ, List.cons_append, List.nil_append, List.getElem?_cons_zero, List.getElem?_cons_succ, List.set_cons_zero, List.set_cons_succ, Nat.sub_self, Nat.reduceAdd, Nat.reduceSub, Option.map_some, Option.bind_some, if_true, Bool.not_true, Bool.not_false, Bool.false_eq_true, if_false, decide_true, decide_false, Int.reduceBEq, Int.reduceEq, Int.reduceLT, Int.reduceLE, Int.reduceNeg, Int.reduceAdd, Int.reduceSub, Int.reduceMul, Int.reduceToNat, Nat.reduceLT, Nat.reduceLeDiff, beq_self_eq_true, reduceIte, eq_self, Int.reduceNe, Int.reduceBNe, not_true_eq_false, not_false_eq_true, true_and, and_true, true_or, or_true, false_or, or_false, and_false, false_and, decide_eq_true_eq, Bool.true_and, Bool.and_true, Bool.false_and, Bool.and_false, Bool.true_or, Bool.or_true, Bool.false_or, Bool.or_false, dIn_sign]
  unfold m_look_hearer b_look_hearer
  by_cases h1 : (1 : Int) ≤ l.length
  · by_cases h2 : (l.length : Int) ≤ 12
    · have hn : isHearer l = l.all fun c => decide (c ∈ smalls) := by
        unfold isHearer
        rw [decide_eq_true (show 1 ≤ l.length ∧ l.length ≤ 12 by omega), Bool.true_and]
      cases hq : (l.all fun c => decide (c ∈ smalls)) with
      | true => simp only [fnOf, ev_seq, ev_asg, sBnd_def, ev_op, ev_un, bnd_def, ev_call, evs_cons, evs_nil, ev_var, ev_c, ev_if, ev_next, ev_expr, ev_tru, ev_bl, ev_and, ev_or, ev_not, ev_yes, ev_andE, ev_orE, ev_notE, ev_ifE, ev_chain, ofB_some, ofO_some, ofO_none, truD_non, truD_bl, truD_int, truD_str, truD_tup, truD_lst, truD_lsk, ev_tup, ev_lst, ev_nwF, ev_nwM, ev_meth, ev_make, ev_fld, ev_setF, ev_bm1, asQ_tup, asQ_lst, asQ_lsk, asL_lst, asL_lsk, dLen_tup, dLen_lst, dLen_lsk, dLen_str, dIx_tup, dIx_lst, dIx_lsk, dIx_str, dAdd_int, dNeg_int, isN_def, notN_def, isNon_non, isNon_int, isNon_bl, isNon_str, isNon_tup, isNon_lst, isNon_obj, isNon_exc, dEq_int, dNe_int, dEq_str, dNe_str, dEq_bl, atI_zero, atI_one, atI_2, atI_3, atI_4, atI_5, atI_6, atI_7, atI_8, atI_9, atI_10, atI_11, atI_12, atI_m1, ev_gT, setAll_nil, setAll_cons, iOp_int, ev_gN, ev_ret, List.map_cons, List.map_nil, List.length_cons, List.length_nil, rep_zero, rep_succ, List.cons_append, List.nil_append, List.getElem?_cons_zero, List.getElem?_cons_succ, List.set_cons_zero, List.set_cons_succ, Nat.sub_self, Nat.reduceAdd, Nat.reduceSub, Option.map_some, Option.bind_some, if_true, Bool.not_true, Bool.not_false, Bool.false_eq_true, if_false, decide_true, decide_false, Int.reduceBEq, Int.reduceEq, Int.reduceLT, Int.reduceLE, Int.reduceNeg, Int.reduceAdd, Int.reduceSub, Int.reduceMul, Int.reduceToNat, Nat.reduceLT, Nat.reduceLeDiff, beq_self_eq_true, reduceIte, eq_self, Int.reduceNe, Int.reduceBNe, not_true_eq_false, not_false_eq_true, true_and, and_true, true_or, or_true, false_or, or_false, and_false, false_and, decide_eq_true_eq, Bool.true_and, Bool.and_true, Bool.false_and, Bool.and_false, Bool.true_or, Bool.or_true, Bool.false_or, Bool.or_false, mkS_len, dLe, h1, h2, t_small, ev_lc, ev_iSeq, signs_mk, wipeD_nil, wipeD_cons, bndN, e3, dAll_map, hq, ev_raise, hn]
      | false => simp only [fnOf, ev_seq, ev_asg, sBnd_def, ev_op, ev_un, bnd_def, ev_call, evs_cons, evs_nil, ev_var, ev_c, ev_if, ev_next, ev_expr, ev_tru, ev_bl, ev_and, ev_or, ev_not, ev_yes, ev_andE, ev_orE, ev_notE, ev_ifE, ev_chain, ofB_some, ofO_some, ofO_none, truD_non, truD_bl, truD_int, truD_str, truD_tup, truD_lst, truD_lsk, ev_tup, ev_lst, ev_nwF, ev_nwM, ev_meth, ev_make, ev_fld, ev_setF, ev_bm1, asQ_tup, asQ_lst, asQ_lsk, asL_lst, asL_lsk, dLen_tup, dLen_lst, dLen_lsk, dLen_str, dIx_tup, dIx_lst, dIx_lsk, dIx_str, dAdd_int, dNeg_int, isN_def, notN_def, isNon_non, isNon_int, isNon_bl, isNon_str, isNon_tup, isNon_lst, isNon_obj, isNon_exc, dEq_int, dNe_int, dEq_str, dNe_str, dEq_bl, atI_zero, atI_one, atI_2, atI_3, atI_4, atI_5, atI_6, atI_7, atI_8, atI_9, atI_10, atI_11, atI_12, atI_m1, ev_gT, setAll_nil, setAll_cons, iOp_int, ev_gN, ev_ret, List.map_cons, List.map_nil, List.length_cons, List.length_nil, rep_zero, rep_succ, List.cons_append, List.nil_append, List.getElem?_cons_zero, List.getElem?_cons_succ, List.set_cons_zero, List.set_cons_succ, Nat.sub_self, Nat.reduceAdd, Nat.reduceSub, Option.map_some, Option.bind_some, if_true, Bool.not_true, Bool.not_false, Bool.false_eq_true, if_false, decide_true, decide_false, Int.reduceBEq, Int.reduceEq, Int.reduceLT, Int.reduceLE, Int.reduceNeg, Int.reduceAdd, Int.reduceSub, Int.reduceMul, Int.reduceToNat, Nat.reduceLT, Nat.reduceLeDiff, beq_self_eq_true, reduceIte, eq_self, Int.reduceNe, Int.reduceBNe, not_true_eq_false, not_false_eq_true, true_and, and_true, true_or, or_true, false_or, or_false, and_false, false_and, decide_eq_true_eq, Bool.true_and, Bool.and_true, Bool.false_and, Bool.and_false, Bool.true_or, Bool.or_true, Bool.false_or, Bool.or_false, mkS_len, dLe, h1, h2, t_small, ev_lc, ev_iSeq, signs_mk, wipeD_nil, wipeD_cons, bndN, e3, dAll_map, hq, ev_raise, hn]
    · have hn : isHearer l = false := by
        unfold isHearer
        rw [decide_eq_false (show ¬ (1 ≤ l.length ∧ l.length ≤ 12) by omega), Bool.false_and]
      simp only [fnOf, ev_seq, ev_asg, sBnd_def, ev_op, ev_un, bnd_def, ev_call, evs_cons, evs_nil, ev_var, ev_c, ev_if, ev_next, ev_expr, ev_tru, ev_bl, ev_and, ev_or, ev_not, ev_yes, ev_andE, ev_orE, ev_notE, ev_ifE, ev_chain, ofB_some, ofO_some, ofO_none, truD_non, truD_bl, truD_int, truD_str, truD_tup, truD_lst, truD_lsk, ev_tup, ev_lst, ev_nwF, ev_nwM, ev_meth, ev_make, ev_fld, ev_setF, ev_bm1, asQ_tup, asQ_lst, asQ_lsk, asL_lst, asL_lsk, dLen_tup, dLen_lst, dLen_lsk, dLen_str, dIx_tup, dIx_lst, dIx_lsk, dIx_str, dAdd_int, dNeg_int, isN_def, notN_def, isNon_non, isNon_int, isNon_bl, isNon_str, isNon_tup, isNon_lst, isNon_obj, isNon_exc, dEq_int, dNe_int, dEq_str, dNe_str, dEq_bl, atI_zero, atI_one, atI_2, atI_3, atI_4, atI_5, atI_6, atI_7, atI_8, atI_9, atI_10, atI_11, atI_12, atI_m1, ev_gT, setAll_nil, setAll_cons, iOp_int, ev_gN, ev_ret, List.map_cons, List.map_nil, List.length_cons, List.length_nil, rep_zero, rep_succ, List.cons_append, List.nil_append, List.getElem?_cons_zero, List.getElem?_cons_succ, List.set_cons_zero, List.set_cons_succ, Nat.sub_self, Nat.reduceAdd, Nat.reduceSub, Option.map_some, Option.bind_some, if_true, Bool.not_true, Bool.not_false, Bool.false_eq_true, if_false, decide_true, decide_false, Int.reduceBEq, Int.reduceEq, Int.reduceLT, Int.reduceLE, Int.reduceNeg, Int.reduceAdd, Int.reduceSub, Int.reduceMul, Int.reduceToNat, Nat.reduceLT, Nat.reduceLeDiff, beq_self_eq_true, reduceIte, eq_self, Int.reduceNe, Int.reduceBNe, not_true_eq_false, not_false_eq_true, true_and, and_true, true_or, or_true, false_or, or_false, and_false, false_and, decide_eq_true_eq, Bool.true_and, Bool.and_true, Bool.false_and, Bool.and_false, Bool.true_or, Bool.or_true, Bool.false_or, Bool.or_false, mkS_len, dLe, h1, h2, ev_raise, hn]
  · have hn : isHearer l = false := by
      unfold isHearer
      rw [decide_eq_false (show ¬ (1 ≤ l.length ∧ l.length ≤ 12) by omega), Bool.false_and]
    simp only [fnOf, ev_seq, ev_asg, sBnd_def, ev_op, ev_un, bnd_def, ev_call, evs_cons, evs_nil, ev_var, ev_c, ev_if, ev_next, ev_expr, ev_tru, ev_bl, ev_and, ev_or, ev_not, ev_yes, ev_andE, ev_orE, ev_notE, ev_ifE, ev_chain, ofB_some, ofO_some, ofO_none, truD_non, truD_bl, truD_int, truD_str, truD_tup, truD_lst, truD_lsk, ev_tup, ev_lst, ev_nwF, ev_nwM, ev_meth, ev_make, ev_fld, ev_setF, ev_bm1, asQ_tup, asQ_lst, asQ_lsk, asL_lst, asL_lsk, dLen_tup, dLen_lst, dLen_lsk, dLen_str, dIx_tup, dIx_lst, dIx_lsk, dIx_str, dAdd_int, dNeg_int, isN_def, notN_def, isNon_non, isNon_int, isNon_bl, isNon_str, isNon_tup, isNon_lst, isNon_obj, isNon_exc, dEq_int, dNe_int, dEq_str, dNe_str, dEq_bl, atI_zero, atI_one, atI_2, atI_3, atI_4, atI_5, atI_6, atI_7, atI_8, atI_9, atI_10, atI_11, atI_12, atI_m1, ev_gT, setAll_nil, setAll_cons, iOp_int, ev_gN, ev_ret, List.map_cons, List.map_nil, List.length_cons, List.length_nil, rep_zero, rep_succ, List.cons_append, List.nil_append, List.getElem?_cons_zero, List.getElem?_cons_succ, List.set_cons_zero, List.set_cons_succ, Nat.sub_self, Nat.reduceAdd, Nat.reduceSub, Option.map_some, Option.bind_some, if_true, Bool.not_true, Bool.not_false, Bool.false_eq_true, if_false, decide_true, decide_false, Int.reduceBEq, Int.reduceEq, Int.reduceLT, Int.reduceLE, Int.reduceNeg, Int.reduceAdd, Int.reduceSub, Int.reduceMul, Int.reduceToNat, Nat.reduceLT, Nat.reduceLeDiff, beq_self_eq_true, reduceIte, eq_self, Int.reduceNe, Int.reduceBNe, not_true_eq_false, not_false_eq_true, true_and, and_true, true_or, or_true, false_or, or_false, and_false, false_and, decide_eq_true_eq, Bool.true_and, Bool.and_true, Bool.false_and, Bool.and_false, Bool.true_or, Bool.or_true, Bool.false_or, Bool.or_false, mkS_len, dLe, h1, ev_raise, hn]
theorem ev_look_grade (g : Int) (s : Sto) : m_look_grade [.int g] s = if 0 ≤ g ∧ g ≤ 2 then .ok .non s else .exc 3 s := by
  unfold m_look_grade b_look_grade
  by_cases h1 : 0 ≤ g
  · by_cases h2 : g ≤ 2
    · rw [if_pos ⟨h1, h2⟩]; simp only [fnOf, ev_seq, ev_asg, sBnd_def, ev_op, ev_un, bnd_def, ev_call, evs_cons, evs_nil, ev_var, ev_c, ev_if, ev_next, ev_expr, ev_tru, ev_bl, ev_and, ev_or, ev_not, ev_yes, ev_andE, ev_orE, ev_notE, ev_ifE, ev_chain, ofB_some, ofO_some, ofO_none, truD_non, truD_bl, truD_int, truD_str, truD_tup, truD_lst, truD_lsk, ev_tup, ev_lst, ev_nwF, ev_nwM, ev_meth, ev_make, ev_fld, ev_setF, ev_bm1, asQ_tup, asQ_lst, asQ_lsk, asL_lst, asL_lsk, dLen_tup, dLen_lst, dLen_lsk, dLen_str, dIx_tup, dIx_lst, dIx_lsk, dIx_str, dAdd_int, dNeg_int, isN_def, notN_def, isNon_non, isNon_int, isNon_bl, isNon_str, isNon_tup, isNon_lst, isNon_obj, isNon_exc, dEq_int, dNe_int, dEq_str, dNe_str, dEq_bl, atI_zero, atI_one, atI_2, atI_3, atI_4, atI_5, atI_6, atI_7, atI_8, atI_9, atI_10, atI_11, atI_12, atI_m1, ev_gT, setAll_nil, setAll_cons, iOp_int, ev_gN, ev_ret, List.map_cons, List.map_nil, List.length_cons, List.length_nil, rep_zero, rep_succ, List.cons_append, List.nil_append, List.getElem?_cons_zero, List.getElem?_cons_succ, List.set_cons_zero, List.set_cons_succ, Nat.sub_self, Nat.reduceAdd, Nat.reduceSub, Option.map_some, Option.bind_some, if_true, Bool.not_true, Bool.not_false, Bool.false_eq_true, if_false, decide_true, decide_false, Int.reduceBEq, Int.reduceEq, Int.reduceLT, Int.reduceLE, Int.reduceNeg, Int.reduceAdd, Int.reduceSub, Int.reduceMul, Int.reduceToNat, Nat.reduceLT, Nat.reduceLeDiff, beq_self_eq_true, reduceIte, eq_self, Int.reduceNe, Int.reduceBNe, not_true_eq_false, not_false_eq_true, true_and, and_true, true_or, or_true, false_or, or_false, and_false, false_and, decide_eq_true_eq, Bool.true_and, Bool.and_true, Bool.false_and, Bool.and_false, Bool.true_or, Bool.or_true, Bool.false_or, Bool.or_false, dLe, h1, h2]
    · rw [if_neg (fun h => h2 h.2)]; simp only [fnOf, ev_seq, ev_asg, sBnd_def, ev_op, ev_un, bnd_def, ev_call, evs_cons, evs_nil, ev_var, ev_c, ev_if, ev_next, ev_expr, ev_tru, ev_bl, ev_and, ev_or, ev_not, ev_yes, ev_andE, ev_orE, ev_notE, ev_ifE, ev_chain, ofB_some, ofO_some, ofO_none, truD_non, truD_bl, truD_int, truD_str, truD_tup, truD_lst, truD_lsk, ev_tup, ev_lst, ev_nwF, ev_nwM, ev_meth, ev_make, ev_fld, ev_setF, ev_bm1, asQ_tup, asQ_lst, asQ_lsk, asL_lst, asL_lsk, dLen_tup, dLen_lst, dLen_lsk, dLen_str, dIx_tup, dIx_lst, dIx_lsk, dIx_str, dAdd_int, dNeg_int, isN_def, notN_def, isNon_non, isNon_int, isNon_bl, isNon_str, isNon_tup, isNon_lst, isNon_obj, isNon_exc, dEq_int, dNe_int, dEq_str, dNe_str, dEq_bl, atI_zero, atI_one, atI_2, atI_3, atI_4, atI_5, atI_6, atI_7, atI_8, atI_9, atI_10, atI_11, atI_12, atI_m1, ev_gT, setAll_nil, setAll_cons, iOp_int, ev_gN, ev_ret, List.map_cons, List.map_nil, List.length_cons, List.length_nil, rep_zero, rep_succ, List.cons_append, List.nil_append, List.getElem?_cons_zero, List.getElem?_cons_succ, List.set_cons_zero, List.set_cons_succ, Nat.sub_self, Nat.reduceAdd, Nat.reduceSub, Option.map_some, Option.bind_some, if_true, Bool.not_true, Bool.not_false, Bool.false_eq_true, if_false, decide_true, decide_false, Int.reduceBEq, Int.reduceEq, Int.reduceLT, Int.reduceLE, Int.reduceNeg, Int.reduceAdd, Int.reduceSub, Int.reduceMul, Int.reduceToNat, Nat.reduceLT, Nat.reduceLeDiff, beq_self_eq_true, reduceIte, eq_self, Int.reduceNe, Int.reduceBNe, not_true_eq_false, not_false_eq_true, true_and, and_true, true_or, or_true, false_or, or_false, and_false, false_and, decide_eq_true_eq, Bool.true_and, Bool.and_true, Bool.false_and, Bool.and_false, Bool.true_or, Bool.or_true, Bool.false_or, Bool.or_false, dLe, h1, h2, ev_raise]
  · rw [if_neg (fun h => h1 h.1)]; simp only [fnOf, ev_seq, ev_asg, sBnd_def, ev_op, ev_un, bnd_def, ev_call, evs_cons, evs_nil, ev_var, ev_c, ev_if, ev_next, ev_expr, ev_tru, ev_bl, ev_and, ev_or, ev_not, ev_yes, ev_andE, ev_orE, ev_notE, ev_ifE, ev_chain, ofB_some, ofO_some, ofO_none, truD_non, truD_bl, truD_int, truD_str, truD_tup, truD_lst, truD_lsk, ev_tup, ev_lst, ev_nwF, ev_nwM, ev_meth, ev_make, ev_fld, ev_setF, ev_bm1, asQ_tup, asQ_lst, asQ_lsk, asL_lst, asL_lsk, dLen_tup, dLen_lst, dLen_lsk, dLen_str, dIx_tup, dIx_lst, dIx_lsk, dIx_str, dAdd_int, dNeg_int, isN_def, notN_def, isNon_non, isNon_int, isNon_bl, isNon_str, isNon_tup, isNon_lst, isNon_obj, isNon_exc, dEq_int, dNe_int, dEq_str, dNe_str, dEq_bl, atI_zero, atI_one, atI_2, atI_3, atI_4, atI_5, atI_6, atI_7, atI_8, atI_9, atI_10, atI_11, atI_12, atI_m1, ev_gT, setAll_nil, setAll_cons, iOp_int, ev_gN, ev_ret, List.map_cons, List.map_nil, List.length_cons, List.length_nil, rep_zero, rep_succ, List.cons_append, List.nil_append, List.getElem?_cons_zero, List.getElem?_cons_succ, List.set_cons_zero, List.set_cons_succ, Nat.sub_self, Nat.reduceAdd, Nat.reduceSub, Option.map_some, Option.bind_some, if_true, Bool.not_true, Bool.not_false, Bool.false_eq_true, if_false, decide_true, decide_false, Int.reduceBEq, Int.reduceEq, Int.reduceLT, Int.reduceLE, Int.reduceNeg, Int.reduceAdd, Int.reduceSub, Int.reduceMul, Int.reduceToNat, Nat.reduceLT, Nat.reduceLeDiff, beq_self_eq_true, reduceIte, eq_self, Int.reduceNe, Int.reduceBNe, not_true_eq_false, not_false_eq_true, true_and, and_true, true_or, or_true, false_or, or_false, and_false, false_and, decide_eq_true_eq, Bool.true_and, Bool.and_true, Bool.false_and, Bool.and_false, Bool.true_or, Bool.or_true, Bool.false_or, Bool.or_false, dLe, h1, ev_raise]
/-! ### levels that the law draws -/
def allSigns : List Nat := [32, 33, 35, 36, 38, 39, 40, 41, 42, 43, 44, 45, 46, 47, 48, 49, 50, 51, 52, 53, 54, 55, 56, 57, 58, 59, 60, 61, 62, 63, 64, 65, 66, 67, 88, 89, 90, 91, 93, 94, 95, 97, 98, 99, 100, 101, 102, 103, 104, 105, 106, 107, 108, 109, 110, 111, 112, 113, 114, 115, 116, 117, 118, 119, 120, 121, 122, 123, 124, 125, 126]
theorem t_signs : Str.ofString " !#$&'()*+,-./0123456789:;<=>?@ABCXYZ[]^_abcdefghijklmnopqrstuvwxyz{|}~" = mkS allSigns := by decide +kernel
theorem t_x : Str.ofString "x" = mkS [120] := by decide +kernel
theorem t_abx : Str.ofString "ab" = mkS [97, 98] := by decide +kernel
theorem allSigns_ok : ∀ c ∈ allSigns, c < 127 ∧ (sgn c = true ∨ c ∈ [43, 35, 47]) := by decide +kernel
theorem ev_pickS (ns : List Int) {t N : Nat} {l : List Nat} {R : List SP} {s : Sto} (o : Own (Tw t N :: R) s) (hN : N < 900000) (hl : l ≠ []) : ∃ c ∈ l, ∃ s', m_law_pick [sc ns, .obj t, .str (mkS l)] s = .ok (.str (mkS [c])) s' ∧ Own (Tw t (N + 1) :: R) s' := by
  have hl' : (0 : Int) < l.length := by have := List.length_pos_iff.mpr hl; omega
  obtain ⟨v, hv, s', h1, o'⟩ := ev_draw ns o hN hl'
  have hv2 : v < l.length := by omega
  have h5 : atI l (v : Int) = some l[v] := by rw [atI_ofNat, List.getElem?_eq_getElem hv2]
  refine ⟨l[v], List.getElem_mem hv2, s', ?_, o'⟩
  unfold m_law_pick b_law_pick
  simp only [fnOf, ev_seq, ev_asg, sBnd_def, ev_op, ev_un, bnd_def, ev_call, evs_cons, evs_nil, ev_var, ev_c, ev_if, ev_next, ev_expr, ev_tru, ev_bl, ev_and, ev_or, ev_not, ev_yes, ev_andE, ev_orE, ev_notE, ev_ifE, ev_chain, ofB_some, ofO_some, ofO_none, truD_non, truD_bl, truD_int, truD_str, truD_tup, truD_lst, truD_lsk, ev_tup, ev_lst, ev_nwF, ev_nwM, ev_meth, ev_make, ev_fld, ev_setF, ev_bm1, asQ_tup, asQ_lst, asQ_lsk, asL_lst, asL_lsk, dLen_tup, dLen_lst, dLen_lsk, dLen_str, dIx_tup, dIx_lst, dIx_lsk, dIx_str, dAdd_int, dNeg_int, isN_def, notN_def, isNon_non, isNon_int, isNon_bl, isNon_str, isNon_tup, isNon_lst, isNon_obj, isNon_exc, dEq_int, dNe_int, dEq_str, dNe_str, dEq_bl, atI_zero, atI_one, atI_2, atI_3, atI_4, atI_5, atI_6, atI_7, atI_8, atI_9, atI_10, atI_11, atI_12, atI_m1, ev_gT, setAll_nil, setAll_cons, iOp_int, ev_gN, ev_ret, List.map_cons, List.map_nil, List.length_cons, List.length_nil, rep_zero, rep_succ, List.cons_append, List.nil_append, List.getElem?_cons_zero, List.getElem?_cons_succ, List.set_cons_zero, List.set_cons_succ, Nat.sub_self, Nat.reduceAdd, Nat.reduceSub, Option.map_some, Option.bind_some, if_true, Bool.not_true, Bool.not_false, Bool.false_eq_true, if_false, decide_true, decide_false, Int.reduceBEq, Int.reduceEq, Int.reduceLT, Int.reduceLE, Int.reduceNeg, Int.reduceAdd, Int.reduceSub, Int.reduceMul, Int.reduceToNat, Nat.reduceLT, Nat.reduceLeDiff, beq_self_eq_true, reduceIte, eq_self, Int.reduceNe, Int.reduceBNe, not_true_eq_false, not_false_eq_true, true_and, and_true, true_or, or_true, false_or, or_false, and_false, false_and, decide_eq_true_eq, Bool.true_and, Bool.and_true, Bool.false_and, Bool.and_false, Bool.true_or, Bool.or_true, Bool.false_or, Bool.or_false, mkS_len, h1, h5]
theorem ev_signs (ns : List Int) {t N many : Nat} {R : List SP} {s : Sto} (hN : N + many < 900000) (hm : many ≤ 1000) (o : Own (Tw t N :: R) s) : ∃ (l : List Nat) (s' : Sto), l.length = many ∧ l.all sgn = true ∧ m_law_signs [sc ns, .obj t, .int (many : Int), .bl false] s = .ok (.str (mkS l)) s' ∧ Own (Tw t (N + many) :: R) s' := by
  obtain ⟨e, s', h1, h2⟩ := for_range_inv (tg := gN 6) (body := l_law_signs_1) (fun k env s' => ∃ (l : List Nat) (a b : Option Dt), l.length = k ∧ l.all sgn = true ∧ env = [some (sc ns), some (.obj t), some (.int (many : Int)), some (.bl false), some (.str (mkS allSigns)), some (.str (mkS l)), a, b] ∧ Own (Tw t (N + k) :: R) s') many (env := [some (sc ns), some (.obj t), some (.int (many : Int)), some (.bl false), some (.str (mkS allSigns)), some (.str (mkS [])), none, none]) (s := s)
    ⟨[], none, none, rfl, rfl, rfl, o⟩ (fun k env s' hk hi => by
      obtain ⟨l, a, b, e1, e3, e4, e5⟩ := hi
      subst e4
      obtain ⟨c, hc, s2, e6, o2⟩ := ev_pickS ns (l := allSigns) e5 (by omega) (by decide)
      obtain ⟨hc1, hc2⟩ := allSigns_ok c hc
      by_cases hb : c ∈ [43, 35, 47]
      · have bd : l_law_signs_1 [some (sc ns), some (.obj t), some (.int (many : Int)), some (.bl false), some (.str (mkS allSigns)), some (.str (mkS l)), some (.int (k : Int)), b] s' = .fl (.nx [some (sc ns), some (.obj t), some (.int (many : Int)), some (.bl false), some (.str (mkS allSigns)), some (.str (mkS (l ++ [120]))), some (.int (k : Int)), some (.str (mkS [c]))]) s2 := by
          unfold l_law_signs_1
          simp only [fnOf, ev_seq, ev_asg, sBnd_def, ev_op, ev_un, bnd_def, ev_call, evs_cons, evs_nil, ev_var, ev_c, ev_if, ev_next, ev_expr, ev_tru, ev_bl, ev_and, ev_or, ev_not, ev_yes, ev_andE, ev_orE, ev_notE, ev_ifE, ev_chain, ofB_some, ofO_some, ofO_none, truD_non, truD_bl, truD_int, truD_str, truD_tup, truD_lst, truD_lsk, ev_tup, ev_lst, ev_nwF, ev_nwM, ev_meth, ev_make, ev_fld, ev_setF, ev_bm1, asQ_tup, asQ_lst, asQ_lsk, asL_lst, asL_lsk, dLen_tup, dLen_lst, dLen_lsk, dLen_str, dIx_tup, dIx_lst, dIx_lsk, dIx_str, dAdd_int, dNeg_int, isN_def, notN_def, isNon_non, isNon_int, isNon_bl, isNon_str, isNon_tup, isNon_lst, isNon_obj, isNon_exc, dEq_int, dNe_int, dEq_str, dNe_str, dEq_bl, atI_zero, atI_one, atI_2, atI_3, atI_4, atI_5, atI_6, atI_7, atI_8, atI_9, atI_10, atI_11, atI_12, atI_m1, ev_gT, setAll_nil, setAll_cons, iOp_int, ev_gN, ev_ret, List.map_cons, List.map_nil, List.length_cons, List.length_nil, rep_zero, rep_succ, List.cons_append, List.nil_append, List.getElem?_cons_zero, List.getElem?_cons_succ, List.set_cons_zero, List.set_cons_succ, Nat.sub_self, Nat.reduceAdd, Nat.reduceSub, Option.map_some, Option.bind_some, if_true, Bool.not_true, Bool.not_false, Bool.false_eq_true, if_false, decide_true, decide_false, Int.reduceBEq, Int.reduceEq, Int.reduceLT, Int.reduceLE, Int.reduceNeg, Int.reduceAdd, Int.reduceSub, Int.reduceMul, Int.reduceToNat, Nat.reduceLT, Nat.reduceLeDiff, beq_self_eq_true, reduceIte, eq_self, Int.reduceNe, Int.reduceBNe, not_true_eq_false, not_false_eq_true, true_and, and_true, true_or, or_true, false_or, or_false, and_false, false_and, decide_eq_true_eq, Bool.true_and, Bool.and_true, Bool.false_and, Bool.and_false, Bool.true_or, Bool.or_true, Bool.false_or, Bool.or_false, e6, t_bad, t_x, dIn_sign, hb, str_obj]
          rw [if_pos (by omega)]
        refine ⟨_, rfl, _, s2, .inl bd, l ++ [120], _, _, by simp [e1], ?_, rfl, o2⟩
        rw [List.all_append, e3]
        rfl
      · have bd : l_law_signs_1 [some (sc ns), some (.obj t), some (.int (many : Int)), some (.bl false), some (.str (mkS allSigns)), some (.str (mkS l)), some (.int (k : Int)), b] s' = .fl (.nx [some (sc ns), some (.obj t), some (.int (many : Int)), some (.bl false), some (.str (mkS allSigns)), some (.str (mkS (l ++ [c]))), some (.int (k : Int)), some (.str (mkS [c]))]) s2 := by
          unfold l_law_signs_1
          simp only [fnOf, ev_seq, ev_asg, sBnd_def, ev_op, ev_un, bnd_def, ev_call, evs_cons, evs_nil, ev_var, ev_c, ev_if, ev_next, ev_expr, ev_tru, ev_bl, ev_and, ev_or, ev_not, ev_yes, ev_andE, ev_orE, ev_notE, ev_ifE, ev_chain, ofB_some, ofO_some, ofO_none, truD_non, truD_bl, truD_int, truD_str, truD_tup, truD_lst, truD_lsk, ev_tup, ev_lst, ev_nwF, ev_nwM, ev_meth, ev_make, ev_fld, ev_setF, ev_bm1, asQ_tup, asQ_lst, asQ_lsk, asL_lst, asL_lsk, dLen_tup, dLen_lst, dLen_lsk, dLen_str, dIx_tup, dIx_lst, dIx_lsk, dIx_str, dAdd_int, dNeg_int, isN_def, notN_def, isNon_non, isNon_int, isNon_bl, isNon_str, isNon_tup, isNon_lst, isNon_obj, isNon_exc, dEq_int, dNe_int, dEq_str, dNe_str, dEq_bl, atI_zero, atI_one, atI_2, atI_3, atI_4, atI_5, atI_6, atI_7, atI_8, atI_9, atI_10, atI_11, atI_12, atI_m1, ev_gT, setAll_nil, setAll_cons, iOp_int, ev_gN, ev_ret, List.map_cons, List.map_nil, List.length_cons, List.length_nil, rep_zero, rep_succ, List.cons_append, List.nil_append, List.getElem?_cons_zero, List.getElem?_cons_succ, List.set_cons_zero, List.set_cons_succ, Nat.sub_self, Nat.reduceAdd, Nat.reduceSub, Option.map_some, Option.bind_some, if_true, Bool.not_true, Bool.not_false, Bool.false_eq_true, if_false, decide_true, decide_false, Int.reduceBEq, Int.reduceEq, Int.reduceLT, Int.reduceLE, Int.reduceNeg, Int.reduceAdd, Int.reduceSub, Int.reduceMul, Int.reduceToNat, Nat.reduceLT, Nat.reduceLeDiff, beq_self_eq_true, reduceIte, eq_self, Int.reduceNe, Int.reduceBNe, not_true_eq_false, not_false_eq_true, true_and, and_true, true_or, or_true, false_or, or_false, and_false, false_and, decide_eq_true_eq, Bool.true_and, Bool.and_true, Bool.false_and, Bool.and_false, Bool.true_or, Bool.or_true, Bool.false_or, Bool.or_false, e6, t_bad, t_x, dIn_sign, hb, str_obj]
          rw [if_pos (by omega)]
        refine ⟨_, rfl, _, s2, .inl bd, l ++ [c], _, _, by simp [e1], ?_, rfl, o2⟩
        rw [List.all_append, e3]
        have : sgn c = true := hc2.resolve_right hb
        simp [this])
  obtain ⟨l, a, b, e1, e3, e4, e5⟩ := h2
  subst e4
  refine ⟨l, s', e1, e3, ?_, e5⟩
  have hr : (many : Int) ≤ 16777216 ∧ -(2 ^ 62) ≤ (many : Int) := by omega
  unfold m_law_signs b_law_signs
  simp only [fnOf, ev_seq, ev_asg, sBnd_def, ev_op, ev_un, bnd_def, ev_call, evs_cons, evs_nil, ev_var, ev_c, ev_if, ev_next, ev_expr, ev_tru, ev_bl, ev_and, ev_or, ev_not, ev_yes, ev_andE, ev_orE, ev_notE, ev_ifE, ev_chain, ofB_some, ofO_some, ofO_none, truD_non, truD_bl, truD_int, truD_str, truD_tup, truD_lst, truD_lsk, ev_tup, ev_lst, ev_nwF, ev_nwM, ev_meth, ev_make, ev_fld, ev_setF, ev_bm1, asQ_tup, asQ_lst, asQ_lsk, asL_lst, asL_lsk, dLen_tup, dLen_lst, dLen_lsk, dLen_str, dIx_tup, dIx_lst, dIx_lsk, dIx_str, dAdd_int, dNeg_int, isN_def, notN_def, isNon_non, isNon_int, isNon_bl, isNon_str, isNon_tup, isNon_lst, isNon_obj, isNon_exc, dEq_int, dNe_int, dEq_str, dNe_str, dEq_bl, atI_zero, atI_one, atI_2, atI_3, atI_4, atI_5, atI_6, atI_7, atI_8, atI_9, atI_10, atI_11, atI_12, atI_m1, ev_gT, setAll_nil, setAll_cons, iOp_int, ev_gN, ev_ret, List.map_cons, List.map_nil, List.length_cons, List.length_nil, rep_zero, rep_succ, List.cons_append, List.nil_append, List.getElem?_cons_zero, List.getElem?_cons_succ, List.set_cons_zero, List.set_cons_succ, Nat.sub_self, Nat.reduceAdd, Nat.reduceSub, Option.map_some, Option.bind_some, if_true, Bool.not_true, Bool.not_false, Bool.false_eq_true, if_false, decide_true, decide_false, Int.reduceBEq, Int.reduceEq, Int.reduceLT, Int.reduceLE, Int.reduceNeg, Int.reduceAdd, Int.reduceSub, Int.reduceMul, Int.reduceToNat, Nat.reduceLT, Nat.reduceLeDiff, beq_self_eq_true, reduceIte, eq_self, Int.reduceNe, Int.reduceBNe, not_true_eq_false, not_false_eq_true, true_and, and_true, true_or, or_true, false_or, or_false, and_false, false_and, decide_eq_true_eq, Bool.true_and, Bool.and_true, Bool.false_and, Bool.and_false, Bool.true_or, Bool.or_true, Bool.false_or, Bool.or_false, t_signs, t_nil, ev_for, ev_iRange, hr, Int.toNat_natCast, h1]
theorem ev_level (ns : List Int) {t N : Nat} {R : List SP} {s : Sto} (hN : N + 20 < 900000) (o : Own (Tw t N :: R) s) : ∃ (l : List Nat) (s' : Sto), gl l = true ∧ m_law_level [sc ns, .obj t] s = .ok (.str (mkS l)) s' ∧ Own (Tw t (N + 14) :: R) s' := by
  obtain ⟨v, hv, s1, h1, o1⟩ := ev_draw ns (many := 8) o (by omega) (by decide)
  by_cases h5 : (v : Int) < 5
  · obtain ⟨d, hd, s2, h2, o2⟩ := ev_pick ns (l := [.str (mkS [97]), .str (mkS [98]), .str (mkS []), .str (mkS [36, 115]), .str (mkS [97, 98])]) o1 (by omega) (by simp)
    obtain ⟨l, rfl, hl⟩ : ∃ l, d = .str (mkS l) ∧ gl l = true := by
      simp only [List.mem_cons, List.not_mem_nil, or_false] at hd
      rcases hd with h | h | h | h | h <;> exact ⟨_, h, by decide⟩
    refine ⟨l, s2, hl, ?_, o2.more (by omega)⟩
    unfold m_law_level b_law_level
    simp only [fnOf, ev_seq, ev_asg, sBnd_def, ev_op, ev_un, bnd_def, ev_call, evs_cons, evs_nil, ev_var, ev_c, ev_if, ev_next, ev_expr, ev_tru, ev_bl, ev_and, ev_or, ev_not, ev_yes, ev_andE, ev_orE, ev_notE, ev_ifE, ev_chain, ofB_some, ofO_some, ofO_none, truD_non, truD_bl, truD_int, truD_str, truD_tup, truD_lst, truD_lsk, ev_tup, ev_lst, ev_nwF, ev_nwM, ev_meth, ev_make, ev_fld, ev_setF, ev_bm1, asQ_tup, asQ_lst, asQ_lsk, asL_lst, asL_lsk, dLen_tup, dLen_lst, dLen_lsk, dLen_str, dIx_tup, dIx_lst, dIx_lsk, dIx_str, dAdd_int, dNeg_int, isN_def, notN_def, isNon_non, isNon_int, isNon_bl, isNon_str, isNon_tup, isNon_lst, isNon_obj, isNon_exc, dEq_int, dNe_int, dEq_str, dNe_str, dEq_bl, atI_zero, atI_one, atI_2, atI_3, atI_4, atI_5, atI_6, atI_7, atI_8, atI_9, atI_10, atI_11, atI_12, atI_m1, ev_gT, setAll_nil, setAll_cons, iOp_int, ev_gN, ev_ret, List.map_cons, List.map_nil, List.length_cons, List.length_nil, rep_zero, rep_succ, List.cons_append, List.nil_append, List.getElem?_cons_zero, List.getElem?_cons_succ, List.set_cons_zero, List.set_cons_succ, Nat.sub_self, Nat.reduceAdd, Nat.reduceSub, Option.map_some, Option.bind_some, if_true, Bool.not_true, Bool.not_false, Bool.false_eq_true, if_false, decide_true, decide_false, Int.reduceBEq, Int.reduceEq, Int.reduceLT, Int.reduceLE, Int.reduceNeg, Int.reduceAdd, Int.reduceSub, Int.reduceMul, Int.reduceToNat, Nat.reduceLT, Nat.reduceLeDiff, beq_self_eq_true, reduceIte, eq_self, Int.reduceNe, Int.reduceBNe, not_true_eq_false, not_false_eq_true, true_and, and_true, true_or, or_true, false_or, or_false, and_false, false_and, decide_eq_true_eq, Bool.true_and, Bool.and_true, Bool.false_and, Bool.and_false, Bool.true_or, Bool.or_true, Bool.false_or, Bool.or_false, h1, dLt, h5, t_a, t_b, t_nil, t_ds, t_abx, h2]
  · obtain ⟨d, hd, s2, h2, o2⟩ := ev_pick ns (l := [.int 1, .int 2, .int 5, .int 12]) o1 (by omega) (by simp)
    obtain ⟨m, rfl, hm⟩ : ∃ m : Nat, d = .int (m : Int) ∧ m ≤ 12 := by
      simp only [List.mem_cons, List.not_mem_nil, or_false] at hd
      rcases hd with h | h | h | h
      · exact ⟨1, h, by decide⟩
      · exact ⟨2, h, by decide⟩
      · exact ⟨5, h, by decide⟩
      · exact ⟨12, h, by decide⟩
    obtain ⟨l, s3, e1, e3, e4, o3⟩ := ev_signs ns (many := m) (by omega) (by omega) o2
    refine ⟨l, s3, ?_, ?_, o3.more (by omega)⟩
    · unfold gl
      rw [e3, Bool.and_true]
      exact decide_eq_true (by omega)
    · unfold m_law_level b_law_level
      simp only [fnOf, ev_seq, ev_asg, sBnd_def, ev_op, ev_un, bnd_def, ev_call, evs_cons, evs_nil, ev_var, ev_c, ev_if, ev_next, ev_expr, ev_tru, ev_bl, ev_and, ev_or, ev_not, ev_yes, ev_andE, ev_orE, ev_notE, ev_ifE, ev_chain, ofB_some, ofO_some, ofO_none, truD_non, truD_bl, truD_int, truD_str, truD_tup, truD_lst, truD_lsk, ev_tup, ev_lst, ev_nwF, ev_nwM, ev_meth, ev_make, ev_fld, ev_setF, ev_bm1, asQ_tup, asQ_lst, asQ_lsk, asL_lst, asL_lsk, dLen_tup, dLen_lst, dLen_lsk, dLen_str, dIx_tup, dIx_lst, dIx_lsk, dIx_str, dAdd_int, dNeg_int, isN_def, notN_def, isNon_non, isNon_int, isNon_bl, isNon_str, isNon_tup, isNon_lst, isNon_obj, isNon_exc, dEq_int, dNe_int, dEq_str, dNe_str, dEq_bl, atI_zero, atI_one, atI_2, atI_3, atI_4, atI_5, atI_6, atI_7, atI_8, atI_9, atI_10, atI_11, atI_12, atI_m1, ev_gT, setAll_nil, setAll_cons, iOp_int, ev_gN, ev_ret, List.map_cons, List.map_nil, List.length_cons, List.length_nil, rep_zero, rep_succ, List.cons_append, List.nil_append, List.getElem?_cons_zero, List.getElem?_cons_succ, List.set_cons_zero, List.set_cons_succ, Nat.sub_self, Nat.reduceAdd, Nat.reduceSub, Option.map_some, Option.bind_some, if_true, Bool.not_true, Bool.not_false, Bool.false_eq_true, if_false, decide_true, decide_false, Int.reduceBEq, Int.reduceEq, Int.reduceLT, Int.reduceLE, Int.reduceNeg, Int.reduceAdd, Int.reduceSub, Int.reduceMul, Int.reduceToNat, Nat.reduceLT, Nat.reduceLeDiff, beq_self_eq_true, reduceIte, eq_self, Int.reduceNe, Int.reduceBNe, not_true_eq_false, not_false_eq_true, true_and, and_true, true_or, or_true, false_or, or_false, and_false, false_and, decide_eq_true_eq, Bool.true_and, Bool.and_true, Bool.false_and, Bool.and_false, Bool.true_or, Bool.or_true, Bool.false_or, Bool.or_false, h1, dLt, h5, h2, e4]
end Tx
namespace Tx
open PySem L2 Pd
/-! ### tables, plainly -/
section
variable {κ κ' α β : Type} [DecidableEq κ] [DecidableEq κ']
theorem mkS_inj {a b : List Nat} (h : mkS a = mkS b) : a = b := by
  have e := mkS_beq a b
  rw [h] at e
  simpa using e.symm
abbrev kT (l : List Nat) : Key := Sum.inr (mkS l)
theorem kT_inj {a b : List Nat} (h : kT a = kT b) : a = b := mkS_inj (Sum.inr.inj h)
def bothM (f : κ → κ') (g : α → β) (l : List (κ × α)) : List (κ' × β) := l.map fun x => (f x.1, g x.2)
theorem valA_map {f : κ → κ'} {g : α → β} (hf : ∀ a b, f a = f b → a = b) (l : List (κ × α)) (k : κ) : valA (bothM f g l) (f k) = (valA l k).map g := by
  induction l with
  | nil => rfl
  | cons x l ih =>
    by_cases e : x.1 = k
    · have e2 : bothM f g (x :: l) = (f k, g x.2) :: bothM f g l := by simp [bothM, e]
      have e3 : x :: l = (k, x.2) :: l := by rw [← e]
      rw [e2, valA_cons_eq, e3, valA_cons_eq]
      rfl
    · have e2 : bothM f g (x :: l) = (f x.1, g x.2) :: bothM f g l := rfl
      have e3 : x :: l = (x.1, x.2) :: l := rfl
      rw [e2, valA_cons_ne (fun h => e (hf _ _ h)), ih, e3, valA_cons_ne e]
theorem any_key (l : List (κ × α)) (k : κ) : (l.any fun kv => decide (kv.1 = k)) = (valA l k).isSome := by
  unfold valA
  rw [Option.isSome_map, List.isSome_find?]
theorem putA_map {f : κ → κ'} {g : α → β} (hf : ∀ a b, f a = f b → a = b) (l : List (κ × α)) (k : κ) (v : α) : putA (bothM f g l) (f k) (g v) = bothM f g (putA l k v) := by
  unfold putA
  rw [any_key, any_key, valA_map hf, Option.isSome_map]
  split
  · unfold bothM
    rw [List.map_map, List.map_map]
    apply List.map_congr_left
    intro x _
    simp only [Function.comp]
    by_cases e : x.1 = k
    · rw [if_pos e, if_pos (by rw [e])]
    · rw [if_neg e, if_neg (fun h => e (hf _ _ h))]
  · unfold bothM
    rw [List.map_append]
    rfl
theorem dropA_map {f : κ → κ'} {g : α → β} (hf : ∀ a b, f a = f b → a = b) (l : List (κ × α)) (k : κ) : dropA (bothM f g l) (f k) = bothM f g (dropA l k) := by
  unfold dropA bothM
  rw [List.filter_map]
  congr 1
  apply List.filter_congr
  intro x _
  simp only [Function.comp]
  by_cases e : x.1 = k
  · simp [e]
  · have : f x.1 ≠ f k := fun h => e (hf _ _ h)
    simp [e, this]
theorem valA_some {l : List (κ × α)} {k : κ} {v : α} (h : valA l k = some v) : (k, v) ∈ l := by
  unfold valA at h
  obtain ⟨x, h1, h2⟩ := Option.map_eq_some_iff.mp h
  have h3 := List.find?_some h1
  have h4 := List.mem_of_find?_eq_some h1
  simp only [decide_eq_true_eq] at h3
  rw [← h3, ← h2]
  exact h4
theorem valA_none {l : List (κ × α)} {k : κ} : valA l k = none ↔ k ∉ l.map (·.1) := by
  unfold valA
  rw [Option.map_eq_none_iff, List.find?_eq_none]
  constructor
  · intro h hk
    obtain ⟨x, h1, h2⟩ := List.mem_map.mp hk
    exact h x h1 (by simpa using h2)
  · intro h x hx hk
    exact h (List.mem_map.mpr ⟨x, hx, by simpa using hk⟩)
theorem valA_mem {l : List (κ × α)} (nd : (l.map (·.1)).Nodup) {k : κ} {v : α} : valA l k = some v ↔ (k, v) ∈ l := by
  refine ⟨valA_some, fun h => ?_⟩
  induction l with
  | nil => cases h
  | cons x l ih =>
    rw [List.map_cons, List.nodup_cons] at nd
    rcases List.mem_cons.mp h with e | h
    · rw [← e]; exact valA_cons_eq
    · have : x.1 ≠ k := fun e => nd.1 (by rw [e]; exact List.mem_map.mpr ⟨_, h, rfl⟩)
      have e3 : x :: l = (x.1, x.2) :: l := rfl
      rw [e3, valA_cons_ne this]
      exact ih nd.2 h
theorem put_keys (l : List (κ × α)) (k : κ) (v : α) : (putA l k v).map (·.1) = if (valA l k).isSome = true then l.map (·.1) else l.map (·.1) ++ [k] := by
  unfold putA
  rw [any_key]
  split
  · rw [List.map_map]
    apply List.map_congr_left
    intro x _
    simp only [Function.comp]
    split <;> rfl
  · rw [List.map_append]; rfl
theorem put_nodup {l : List (κ × α)} (nd : (l.map (·.1)).Nodup) (k : κ) (v : α) : ((putA l k v).map (·.1)).Nodup := by
  rw [put_keys]
  split
  · exact nd
  · rename_i h
    have h' : valA l k = none := by simpa using h
    refine List.nodup_append.mpr ⟨nd, by simp, fun a ha b hb => ?_⟩
    rw [List.mem_singleton] at hb
    rw [hb]
    intro e
    subst e
    exact valA_none.mp h' ha
theorem valA_put (l : List (κ × α)) (k j : κ) (v : α) : valA (putA l k v) j = if k = j then some v else valA l j := by
  unfold putA
  rw [any_key]
  split
  · rename_i h
    induction l with
    | nil => simp [valA] at h
    | cons x l ih =>
      by_cases e : x.1 = k
      · rw [List.map_cons, if_pos e]
        by_cases e2 : k = j
        · rw [if_pos e2, ← e2, e]; exact valA_cons_eq
        · rw [if_neg e2, e]
          have e3 : x :: l = (k, x.2) :: l := by rw [← e]
          rw [e3, valA_cons_ne e2, valA_cons_ne e2]
          clear ih h e3
          induction l with
          | nil => rfl
          | cons y l ih2 =>
            rw [List.map_cons]
            by_cases e4 : y.1 = k
            · rw [if_pos e4]
              have e5 : y :: l = (k, y.2) :: l := by rw [← e4]
              rw [e5, e4, valA_cons_ne e2, valA_cons_ne e2, ih2]
            · rw [if_neg e4]
              have e5 : y :: l = (y.1, y.2) :: l := rfl
              have e6 : ∀ m : List (κ × α), y :: m = (y.1, y.2) :: m := fun _ => rfl
              rw [e5, e6]
              by_cases e7 : y.1 = j
              · rw [e7, valA_cons_eq, valA_cons_eq]
              · rw [valA_cons_ne e7, valA_cons_ne e7, ih2]
      · have e5 : ∀ m : List (κ × α), x :: m = (x.1, x.2) :: m := fun _ => rfl
        have h2 : (valA l k).isSome = true := by rw [e5, valA_cons_ne e] at h; exact h
        rw [List.map_cons, if_neg e, e5, e5 l]
        by_cases e7 : x.1 = j
        · rw [e7, valA_cons_eq, valA_cons_eq]
          rw [if_neg (fun z => e (e7.trans z.symm))]
        · rw [valA_cons_ne e7, valA_cons_ne e7, ih h2]
  · rename_i h
    have h' : valA l k = none := by simpa using h
    unfold valA at h' ⊢
    rw [List.find?_append]
    by_cases e2 : k = j
    · subst e2
      have : l.find? (fun kv => decide (kv.1 = k)) = none := Option.map_eq_none_iff.mp h'
      rw [this]
      simp
    · rw [if_neg e2]
      have : ([(k, v)] : List (κ × α)).find? (fun kv => decide (kv.1 = j)) = none := by simp [e2]
      rw [this, Option.or_none]
theorem valA_drop (l : List (κ × α)) (k j : κ) : valA (dropA l k) j = if k = j then none else valA l j := by
  unfold dropA
  split
  · rename_i e
    rw [valA_none]
    intro h
    obtain ⟨x, h1, h2⟩ := List.mem_map.mp h
    have := (List.mem_filter.mp h1).2
    simp only [decide_eq_true_eq] at this
    exact this (h2.trans e.symm)
  · rename_i e
    induction l with
    | nil => rfl
    | cons x l ih =>
      have e5 : ∀ m : List (κ × α), x :: m = (x.1, x.2) :: m := fun _ => rfl
      by_cases e2 : x.1 = k
      · rw [List.filter_cons_of_neg (by simp [e2]), ih, e5, valA_cons_ne (fun z => e (e2.symm.trans z))]
      · rw [List.filter_cons_of_pos (by simp [e2]), e5, e5 l]
        by_cases e7 : x.1 = j
        · rw [e7, valA_cons_eq, valA_cons_eq]
        · rw [valA_cons_ne e7, valA_cons_ne e7, ih]
theorem drop_nodup {l : List (κ × α)} (nd : (l.map (·.1)).Nodup) (k : κ) : ((dropA l k).map (·.1)).Nodup := nd.sublist (List.Sublist.map _ List.filter_sublist)
theorem nodup_of_keys {l : List (κ × α)} (h : (l.map (·.1)).Nodup) : l.Nodup := by
  have := List.pairwise_map.mp h
  exact this.imp fun h z => h (by rw [z])
/-- tables that tell the same -/
theorem tab_perm {l m : List (κ × α)} (h1 : (l.map (·.1)).Nodup) (h2 : (m.map (·.1)).Nodup) (h : ∀ k, valA l k = valA m k) : l.Perm m := by
  refine (List.perm_ext_iff_of_nodup (nodup_of_keys h1) (nodup_of_keys h2)).mpr fun x => ?_
  have e : x = (x.1, x.2) := rfl
  rw [e, ← valA_mem h1, ← valA_mem h2, h]
/-- the part of a table in the midst -/
theorem valA_split {l : List (κ × α)} {k : κ} {v : α} (nd : (l.map (·.1)).Nodup) (h : valA l k = some v) : ∃ a b, l = a ++ (k, v) :: b ∧ ∀ v', putA l k v' = a ++ (k, v') :: b := by
  obtain ⟨a, b, e⟩ := List.append_of_mem (valA_some h)
  refine ⟨a, b, e, fun v' => ?_⟩
  unfold putA
  rw [any_key, h]
  simp only [Option.isSome_some, if_true]
  rw [e, List.map_append, List.nodup_append, List.map_cons, List.nodup_cons] at nd
  rw [e, List.map_append, List.map_cons, if_pos rfl]
  have g : ∀ c : List (κ × α), k ∉ c.map (·.1) → c.map (fun kv => if kv.1 = k then (kv.1, v') else kv) = c := fun c hc => by
    conv => rhs; rw [← List.map_id c]
    apply List.map_congr_left
    intro x hx
    rw [if_neg (fun z => hc (by rw [← z]; exact List.mem_map.mpr ⟨x, hx, rfl⟩))]
    rfl
  rw [g a (fun hk => nd.2.2 k hk k List.mem_cons_self rfl), g b nd.2.1.1]
end
/-! ### the greatest grades, put together -/
abbrev Gr := List (List Nat × Int)
def gat (m : Gr) (c : Gr) : Gr := c.foldl (fun m e => putA m e.1 (max ((valA m e.1).getD 0) e.2)) m
theorem gat_nodup {c : Gr} : ∀ {m : Gr}, (m.map (·.1)).Nodup → ((gat m c).map (·.1)).Nodup := by
  induction c with
  | nil => exact fun h => h
  | cons e c ih => exact fun h => ih (put_nodup h _ _)
theorem gat_app (m c d : Gr) : gat m (c ++ d) = gat (gat m c) d := List.foldl_append
/-- what the greatest grade of a hearer is -/
def Top (P : Int → Prop) : Option Int → Prop
  | none => ∀ g, ¬ P g
  | some g => P g ∧ ∀ g', P g' → g' ≤ g
theorem Top.eq {P Q : Int → Prop} {a b : Option Int} (h : Top P a) (k : Top Q b) (e : ∀ g, P g ↔ Q g) : a = b := by
  cases a with
  | none =>
    cases b with
    | none => rfl
    | some g => exact absurd ((e g).mpr k.1) (h g)
  | some g =>
    cases b with
    | none => exact absurd ((e g).mp h.1) (k g)
    | some g' =>
      have h1 := h.2 g' ((e g').mpr k.1)
      have h2 := k.2 g ((e g).mp h.1)
      rw [show g = g' by omega]
theorem gat_top {c : Gr} (h : List Nat) : ∀ {m : Gr} {P : Int → Prop}, (∀ e ∈ c, 0 ≤ e.2) → (∀ g, P g → 0 ≤ g) → Top P (valA m h) → Top (fun g => P g ∨ (h, g) ∈ c) (valA (gat m c) h) := by
  induction c with
  | nil =>
    intro m P _ _ ht
    have : (fun g => P g ∨ (h, g) ∈ ([] : Gr)) = P := by funext g; simp
    rw [this]
    exact ht
  | cons e c ih =>
    intro m P hc hp ht
    have he := hc e List.mem_cons_self
    show Top _ (valA (gat (putA m e.1 (max ((valA m e.1).getD 0) e.2)) c) h)
    have h1 : Top (fun g => P g ∨ (h, g) = e) (valA (putA m e.1 (max ((valA m e.1).getD 0) e.2)) h) := by
      rw [valA_put]
      by_cases e1 : e.1 = h
      · rw [if_pos e1, e1]
        cases hv : valA m h with
        | none =>
          rw [hv] at ht
          have z : max ((none : Option Int).getD 0) e.2 = e.2 := by simp only [Option.getD_none]; omega
          rw [z]
          refine ⟨.inr (by rw [← e1]), fun g' hg => ?_⟩
          rcases hg with hg | hg
          · exact absurd hg (ht g')
          · rw [← hg]; omega
        | some v =>
          rw [hv] at ht
          simp only [Option.getD_some]
          refine ⟨?_, fun g' hg => ?_⟩
          · rcases Int.le_total v e.2 with z | z
            · rw [show max v e.2 = e.2 by omega]; exact .inr (by rw [← e1])
            · rw [show max v e.2 = v by omega]; exact .inl ht.1
          · rcases hg with hg | hg
            · have := ht.2 g' hg; omega
            · have : g' = e.2 := by rw [← hg]
              omega
      · rw [if_neg e1]
        have : (fun g => P g ∨ (h, g) = e) = P := by
          funext g
          apply propext
          exact ⟨fun z => z.elim id (fun z => absurd (by rw [← z]) e1), .inl⟩
        rw [this]
        exact ht
    have h2 := ih (fun x hx => hc x (List.mem_cons_of_mem _ hx)) (fun g hg => hg.elim (hp g) (fun z => by rw [← z] at he; exact he)) h1
    have : (fun g => (P g ∨ (h, g) = e) ∨ (h, g) ∈ c) = fun g => P g ∨ (h, g) ∈ e :: c := by
      funext g
      apply propext
      rw [List.mem_cons, or_assoc]
    rw [this] at h2
    exact h2
theorem gat_same {c d : Gr} (hc : ∀ e ∈ c, 0 ≤ e.2) (h : ∀ e, e ∈ c ↔ e ∈ d) (k : List Nat) : valA (gat [] c) k = valA (gat [] d) k := by
  have t0 : Top (fun _ => False) (valA ([] : Gr) k) := fun _ z => z
  exact (gat_top k hc (fun _ z => z.elim) t0).eq (gat_top k (fun e he => hc e ((h e).mpr he)) (fun _ z => z.elim) t0) fun g => by rw [h]
/-! ### sorted -/
theorem sortK_map {α β : Type} (f : β → List Key) (g : α → β) (l : List α) : sortK f (l.map g) = (sortK (fun a => f (g a)) l).map g := by
  have ins : ∀ (a : α) (l : List α), insK f (g a) (l.map g) = (insK (fun a => f (g a)) a l).map g := fun a l => by
    induction l with
    | nil => rfl
    | cons b l ih =>
      rw [List.map_cons]
      unfold insK
      split
      · rfl
      · rw [List.map_cons, ih]
  induction l with
  | nil => rfl
  | cons a l ih =>
    rw [List.map_cons]
    unfold sortK
    rw [ih, ins]
theorem leKs_fst {a b : Key} (x y : List Key) (h : leKs [a] [b] = true) (ne : a ≠ b) : leKs (a :: x) (b :: y) = true := by
  unfold leKs at h ⊢
  simp only [lexK] at h ⊢
  rw [if_neg (fun z => ne z.symm)] at h ⊢
  exact h
theorem sort_pairs {l m : Gr} (nd : (l.map (·.1)).Nodup) (p : l.Perm m) : sortK (fun e : List Nat × Int => [kT e.1]) l = sortK (fun e : List Nat × Int => [kT e.1, Sum.inl e.2]) m := by
  refine sorted_unique (fun e : List Nat × Int => [kT e.1, Sum.inl e.2]) ((sortK_perm _ l).trans (p.trans (sortK_perm _ m).symm)) (fun a _ b _ e => ?_) ?_ (sortK_sorted _ m)
  · simp only [List.cons.injEq, and_true] at e
    have e1 := kT_inj e.1
    have e2 := Sum.inl.inj e.2
    exact Prod.ext e1 e2
  · have h1 := sortK_sorted (fun e : List Nat × Int => [kT e.1]) l
    have h2 : (sortK (fun e : List Nat × Int => [kT e.1]) l).Pairwise (fun a b => a.1 ≠ b.1) := by
      have := (((sortK_perm (fun e : List Nat × Int => [kT e.1]) l).map (·.1)).nodup_iff).mpr nd
      exact List.pairwise_map.mp this
    exact (h1.and h2).imp fun h => leKs_fst _ _ h.1 fun z => h.2 (kT_inj z)
def pairD (e : List Nat × Int) : Dt := .tup [.str (mkS e.1), .int e.2]
theorem sortOk_pairs (l : Gr) : sortOk (l.map pairD) = true := by
  cases l with
  | nil => rfl
  | cons a l =>
    rw [List.map_cons]
    simp only [sortOk, pairD, mdD, keysL, keyD, Option.map_some, List.all_cons, okD, List.map_cons, List.map_nil, isI, decide_true, List.isEmpty_cons, Bool.not_false, Bool.and_true, Bool.true_and, List.all_map]
    rw [List.all_eq_true]
    intro x _
    simp [Function.comp, okD, pairD, keysL, keyD, isI]
theorem sortOk_texts (l : List (List Nat)) : sortOk (l.map fun x => .str (mkS x)) = true := by
  cases l with
  | nil => rfl
  | cons a l =>
    rw [List.map_cons]
    simp only [sortOk, mdD, List.all_cons, okD, Bool.true_and, List.all_map]
    rw [List.all_eq_true]
    intro x _
    simp [Function.comp, okD]
theorem sort_pairD (l : Gr) : sortK keyL (l.map pairD) = (sortK (fun e : List Nat × Int => [kT e.1, Sum.inl e.2]) l).map pairD := by
  rw [sortK_map]
  congr 1
theorem sort_texts (l : Gr) : sortK keyL (l.map fun e => Dt.str (mkS e.1)) = (sortK (fun e : List Nat × Int => [kT e.1]) l).map fun e => Dt.str (mkS e.1) := by
  rw [sortK_map]
  congr 1
end Tx
namespace Tx
open PySem L2 Pd
/-! ### the tree of a book, by paths -/
structure Nd where
  i : Nat
  b : Nat
  h : Nat
  ch : List (List Nat × Nat)
  hs : Gr
abbrev Pth := List (List Nat)
abbrev Tri := List (Pth × Nd)
def hsAt (T : Tri) (p : Pth) : Gr := ((valA T p).map (·.hs)).getD []
structure Con (T : Tri) (tp N : Nat) : Prop where
  nd : (T.map (·.1)).Nodup
  top : ∃ x, valA T [] = some x ∧ x.i = tp
  step : ∀ p x, valA T p = some x → ∀ l, valA x.ch l = (valA T (p ++ [l])).map (·.i)
  up : ∀ p l, (valA T (p ++ [l])).isSome = true → (valA T p).isSome = true
  sz : ∀ p x, valA T p = some x → x.ch.length ≤ N ∧ x.hs.length ≤ N
  hn : ∀ p x, valA T p = some x → (x.hs.map (·.1)).Nodup
theorem Con.mono {T : Tri} {tp N M : Nat} (c : Con T tp N) (h : N ≤ M) : Con T tp M := ⟨c.nd, c.top, c.step, c.up, fun p x e => ⟨Nat.le_trans (c.sz p x e).1 h, Nat.le_trans (c.sz p x e).2 h⟩, c.hn⟩
theorem Con.ups {T : Tri} {tp N : Nat} (c : Con T tp N) : ∀ (q p : Pth), (valA T (p ++ q)).isSome = true → (valA T p).isSome = true
  | [], p, h => by rw [List.append_nil] at h; exact h
  | l :: q, p, h => c.up p l (c.ups q (p ++ [l]) (by rw [List.append_assoc]; exact h))
theorem hsAt_some {T : Tri} {p : Pth} {e : List Nat × Int} (h : e ∈ hsAt T p) : ∃ x, valA T p = some x ∧ e ∈ x.hs := by
  unfold hsAt at h
  cases hv : valA T p with
  | none => rw [hv] at h; cases h
  | some x => rw [hv] at h; exact ⟨x, rfl, h⟩
/-- what is put together for some levels -/
def col (T : Tri) : Pth → Pth → Bool → Gr
  | [], p, _ => hsAt T (p ++ [[35]]) ++ hsAt T p
  | q :: r, p, first => (if (first && TL.pre [36] q) = true then [] else hsAt T (p ++ [[35]]) ++ (if (valA T (p ++ [[43]])).isSome = true then col T r (p ++ [[43]]) false else [])) ++ (if (valA T (p ++ [q])).isSome = true then col T r (p ++ [q]) false else [])
/-- the sign for all stands last alone -/
def lastH (ps : Pth) : Prop := ∀ p ∈ ps.dropLast, p ≠ [35]
theorem lastH_cons {p : List Nat} {ps : Pth} (h : lastH (p :: ps)) : lastH ps ∧ (p = [35] → ps = []) := by
  cases ps with
  | nil => exact ⟨(fun _ h => nomatch h), fun _ => rfl⟩
  | cons q ps =>
    have e : (p :: q :: ps).dropLast = p :: (q :: ps).dropLast := rfl
    unfold lastH at h ⊢
    rw [e] at h
    exact ⟨fun x hx => h x (List.mem_cons_of_mem _ hx), fun z => absurd z (h p List.mem_cons_self)⟩
theorem cons_lastH {p : List Nat} {ps : Pth} (h : lastH ps) (hp : p ≠ [35]) : lastH (p :: ps) := by
  cases ps with
  | nil => exact fun _ h => nomatch h
  | cons q ps =>
    intro x hx
    rcases List.mem_cons.mp (show x ∈ p :: (q :: ps).dropLast from hx) with e | hx
    · rw [e]; exact hp
    · exact h x hx
theorem mem_if {α : Type} {c : Bool} {l : List α} {e : α} : e ∈ (if c = true then l else []) ↔ c = true ∧ e ∈ l := by
  split
  · rename_i h; exact ⟨fun z => ⟨h, z⟩, fun z => z.2⟩
  · rename_i h; exact ⟨(fun z => nomatch z), fun z => absurd z.1 h⟩
theorem mem_col {T : Tri} {tp N : Nat} (c : Con T tp N) (e : List Nat × Int) : ∀ (ls p : Pth), (∀ q ∈ ls, q ≠ [35]) → (e ∈ col T ls p false ↔ ∃ ps, lastH ps ∧ fitsL ps ls = true ∧ e ∈ hsAt T (p ++ ps))
  | [], p, _ => by
    unfold col
    rw [List.mem_append]
    constructor
    · rintro (h | h)
      · exact ⟨[[35]], (fun _ h => nomatch h), rfl, h⟩
      · exact ⟨[], (fun _ h => nomatch h), rfl, by rw [List.append_nil]; exact h⟩
    · rintro ⟨ps, h1, h2, h3⟩
      cases ps with
      | nil => rw [List.append_nil] at h3; exact .inr h3
      | cons x ps =>
        by_cases hx : x = [35]
        · rw [(lastH_cons h1).2 hx, hx] at h3
          exact .inl h3
        · rw [fitsL, if_neg hx] at h2
          cases h2
  | q :: r, p, hq => by
    have ih := fun p => mem_col c e r p fun z hz => hq z (List.mem_cons_of_mem _ hz)
    have up : ∀ x ps, e ∈ hsAt T (p ++ x :: ps) → (valA T (p ++ [x])).isSome = true := fun x ps h => by
      obtain ⟨y, h1, _⟩ := hsAt_some h
      exact c.ups ps (p ++ [x]) (by rw [List.append_assoc]; show (valA T (p ++ x :: ps)).isSome = true; rw [h1]; rfl)
    unfold col
    rw [Bool.false_and, if_neg Bool.false_ne_true, List.mem_append, List.mem_append, mem_if, mem_if, ih, ih]
    constructor
    · rintro ((h | ⟨h1, ps, h2, h3, h4⟩) | ⟨h1, ps, h2, h3, h4⟩)
      · exact ⟨[[35]], (fun _ h => nomatch h), by rw [fitsL, if_pos rfl], h⟩
      · refine ⟨[43] :: ps, cons_lastH h2 (by decide), ?_, by rw [List.append_assoc] at h4; exact h4⟩
        rw [fitsL, if_neg (by decide), h3]
        rfl
      · refine ⟨q :: ps, cons_lastH h2 (hq q List.mem_cons_self), ?_, by rw [List.append_assoc] at h4; exact h4⟩
        rw [fitsL, if_neg (hq q List.mem_cons_self), h3]
        simp
    · rintro ⟨ps, h1, h2, h3⟩
      cases ps with
      | nil => simp [fitsL] at h2
      | cons x ps =>
        obtain ⟨k1, k2⟩ := lastH_cons h1
        by_cases hx : x = [35]
        · rw [k2 hx, hx] at h3
          exact .inl (.inl h3)
        · rw [fitsL, if_neg hx] at h2
          simp only [Bool.and_eq_true, Bool.or_eq_true, beq_iff_eq] at h2
          obtain ⟨h4, h5⟩ := h2
          have h6 : e ∈ hsAt T (p ++ [x] ++ ps) := by rw [List.append_assoc]; exact h3
          rcases h4 with h4 | h4
          · refine .inl (.inr ⟨?_, ps, k1, h5, ?_⟩)
            · rw [h4]; exact up x ps h3
            · rw [h4]; exact h6
          · refine .inr ⟨?_, ps, k1, h5, ?_⟩
            · rw [h4]; exact up x ps h3
            · rw [h4]; exact h6
theorem pre_ne {q : List Nat} (h : TL.pre [36] q = true) : q ≠ [43] ∧ q ≠ [35] := ⟨fun e => by subst e; exact absurd h (by decide), fun e => by subst e; exact absurd h (by decide)⟩
theorem mem_col0 {T : Tri} {tp N : Nat} (c : Con T tp N) (e : List Nat × Int) {q : List Nat} {r : Pth} (hq : ∀ x ∈ q :: r, x ≠ [35]) : e ∈ col T (q :: r) [] true ↔ ∃ ps, lastH ps ∧ (!(wide ps && TL.pre [36] q) && fitsL ps (q :: r)) = true ∧ e ∈ hsAt T ps := by
  by_cases hp : TL.pre [36] q = true
  · obtain ⟨n1, n2⟩ := pre_ne hp
    have h1 : col T (q :: r) [] true = if (valA T [q]).isSome = true then col T r [q] false else [] := by
      rw [col, hp]
      simp
    rw [h1, mem_if, mem_col c e r [q] fun z hz => hq z (List.mem_cons_of_mem _ hz)]
    constructor
    · rintro ⟨h2, ps, h3, h4, h5⟩
      refine ⟨q :: ps, cons_lastH h3 n2, ?_, h5⟩
      rw [fitsL, if_neg n2, h4]
      simp only [wide, Bool.and_eq_true, Bool.not_eq_true', Bool.and_eq_false_iff, Bool.or_eq_false_iff, beq_eq_false_iff_ne]
      exact ⟨.inl ⟨fun z => n1 z.symm, fun z => n2 z.symm⟩, by simp⟩
    · rintro ⟨ps, h2, h3, h4⟩
      rw [hp, Bool.and_true] at h3
      cases ps with
      | nil => simp [fitsL] at h3
      | cons x ps =>
        simp only [wide, Bool.and_eq_true, Bool.not_eq_true', Bool.or_eq_false_iff, beq_eq_false_iff_ne] at h3
        obtain ⟨⟨k1, k2⟩, k3⟩ := h3
        rw [fitsL, if_neg (fun z => k2 z.symm)] at k3
        simp only [Bool.and_eq_true, Bool.or_eq_true, beq_iff_eq] at k3
        obtain ⟨k3, k4⟩ := k3
        have k5 : q = x := k3.resolve_left k1
        subst k5
        refine ⟨?_, ps, (lastH_cons h2).1, k4, h4⟩
        obtain ⟨y, z1, _⟩ := hsAt_some h4
        exact c.ups ps [q] (by show (valA T (q :: ps)).isSome = true; rw [z1]; rfl)
  · have hp' : TL.pre [36] q = false := by simpa using hp
    have h1 : col T (q :: r) [] true = col T (q :: r) [] false := by
      rw [col, col, hp']
      rfl
    rw [h1, mem_col c e (q :: r) [] hq]
    simp only [hp', Bool.and_false, Bool.not_false, Bool.true_and, List.nil_append]
/-! ### rows and the tree -/
abbrev Rows := List ((List Nat × List Nat) × Int)
structure Rel (T : Tri) (rows : Rows) : Prop where
  rn : (rows.map (·.1)).Nodup
  ok : ∀ h w g, ((h, w), g) ∈ rows → isHearer h = true ∧ isWish w = true ∧ 0 ≤ g ∧ g ≤ 2
  into : ∀ h w g, ((h, w), g) ∈ rows → (h, g) ∈ hsAt T (splC 47 w)
  from' : ∀ p h g, (h, g) ∈ hsAt T p → ∃ w, splC 47 w = p ∧ ((h, w), g) ∈ rows
theorem wish_lastH {w : List Nat} (h : isWish w = true) : lastH (splC 47 w) := by
  obtain ⟨h1, _, _⟩ := wish_parts h
  intro p hp
  have : p ∈ plain (splC 47 w) := by
    unfold plain
    split
    · exact hp
    · exact List.dropLast_subset _ hp
  exact gw_ne (h1 p this)
theorem name_parts {l : List Nat} (h : isName l = true) : (∀ p ∈ splC 47 l, gl p = true) ∧ (splC 47 l).length ≤ 8 := by
  unfold isName at h
  simp only [Bool.and_eq_true, decide_eq_true_eq] at h
  exact ⟨List.all_eq_true.mp h.2, h.1.2⟩
theorem gl_ne {p : List Nat} (h : gl p = true) : p ≠ [35] := fun e => by
  subst e
  exact absurd h (by decide)
/-- the law's own list of what is due -/
def dues (rows : Rows) (l : List Nat) : Gr := (rows.filter fun x => fitsC x.1.2 l).map fun x => (x.1.1, x.2)
theorem pre_splC {l q : List Nat} {r : Pth} (h : splC 47 l = q :: r) : TL.pre [36] l = TL.pre [36] q := by
  rw [pre_head l h]
  cases q with
  | nil => rfl
  | cons c q =>
    rw [Bool.eq_iff_iff]
    simp [TL.pre]
theorem mem_dues {T : Tri} {tp N : Nat} {rows : Rows} (c : Con T tp N) (r : Rel T rows) {l : List Nat} (hl : isName l = true) (e : List Nat × Int) : e ∈ dues rows l ↔ e ∈ col T (splC 47 l) [] true := by
  obtain ⟨q, qs, e1⟩ := splC_cons l
  have hq : ∀ x ∈ q :: qs, x ≠ [35] := fun x hx => gl_ne ((name_parts hl).1 x (by rw [e1]; exact hx))
  rw [e1, mem_col0 c e hq]
  unfold dues
  constructor
  · intro h
    obtain ⟨x, h1, h2⟩ := List.mem_map.mp h
    obtain ⟨h3, h4⟩ := List.mem_filter.mp h1
    obtain ⟨⟨hh, w⟩, g⟩ := x
    obtain ⟨_, hw, _⟩ := r.ok hh w g h3
    refine ⟨splC 47 w, wish_lastH hw, ?_, by rw [← h2]; exact r.into hh w g h3⟩
    unfold fitsC at h4
    rw [pre_splC e1, e1] at h4
    exact h4
  · rintro ⟨ps, h1, h2, h3⟩
    obtain ⟨w, h4, h5⟩ := r.from' ps e.1 e.2 h3
    refine List.mem_map.mpr ⟨((e.1, w), e.2), List.mem_filter.mpr ⟨h5, ?_⟩, rfl⟩
    unfold fitsC
    rw [pre_splC e1, e1, h4]
    exact h2
end Tx
namespace Tx
open PySem L2 Pd
/-! ### the tree in the store -/
abbrev chD (l : List (List Nat × Nat)) : List (Key × Dt) := bothM kT Dt.obj l
abbrev hsD (l : Gr) : List (Key × Dt) := bothM kT Dt.int l
def ndS (x : Nd) : List SP := [At x.i (.ins 0 [.obj x.b, .obj x.h]), At x.b (.dic (chD x.ch)), At x.h (.dic (hsD x.hs))]
def triS (T : Tri) : List SP := T.flatMap fun x => ndS x.2
theorem triS_app (a b : Tri) : triS (a ++ b) = triS a ++ triS b := List.flatMap_append
theorem tri_at {T : Tri} {p : Pth} {x : Nd} (nd : (T.map (·.1)).Nodup) (h : valA T p = some x) : ∃ K, (triS T).Perm (ndS x ++ K) ∧ ∀ x', (triS (putA T p x')).Perm (ndS x' ++ K) := by
  obtain ⟨a, b, e1, e2⟩ := valA_split nd h
  have g : ∀ z : Nd, (triS (a ++ (p, z) :: b)).Perm (ndS z ++ (triS a ++ triS b)) := fun z => by
    rw [triS_app]
    show (triS a ++ (ndS z ++ triS b)).Perm _
    exact List.perm_append_comm_assoc _ _ _
  exact ⟨triS a ++ triS b, by rw [e1]; exact g x, fun x' => by rw [e2]; exact g x'⟩
theorem put_new {κ α : Type} [DecidableEq κ] {l : List (κ × α)} {k : κ} {v : α} (h : valA l k = none) : putA l k v = l ++ [(k, v)] := by
  unfold putA
  rw [any_key, h]
  rfl
theorem dg_txt {α : Type} {s : Sto} {b : Nat} {g : α → Dt} {m : List (List Nat × α)} {l : List Nat} (h : s[b]? = some (.dic (bothM kT g m))) : dgetD s (.obj b) (.str (mkS l)) = some ((valA m l).map g) := by
  simp only [dgetD, h, keyD, Option.map_some]
  rw [← valA_map (f := kT) (g := g) (fun a b => kT_inj)]
theorem dg_txtL {α : Type} {s : Sto} {b : Nat} {g : α → Dt} {m : List (List Nat × α)} {l : List Nat} (h : s[b]? = some (.dicL (bothM kT g m))) : dgetD s (.obj b) (.str (mkS l)) = some ((valA m l).map g) := by
  simp only [dgetD, h, keyD, Option.map_some]
  rw [← valA_map (f := kT) (g := g) (fun a b => kT_inj)]
theorem dp_txt {α : Type} {s : Sto} {b : Nat} {g : α → Dt} {m : List (List Nat × α)} {l : List Nat} {v : α} (h : s[b]? = some (.dic (bothM kT g m))) (hl : m.length < 1000000) : dputD s (.obj b) (.str (mkS l)) (g v) = some (s.set b (.dic (bothM kT g (putA m l v)))) := by
  rw [dput_of h (by unfold bothM; rw [List.length_map]; exact hl)]
  rw [show Sum.inr (mkS l) = kT l from rfl, putA_map (fun a b => kT_inj)]
theorem nd_init {R : List SP} {s : Sto} (o : Own R s) : ∃ b h s', m_Node_init [.obj s.length] (s ++ [.ins 0 []]) = .ok .non s' ∧ Own (ndS ⟨s.length, b, h, [], []⟩ ++ R) s' := by
  have o1 := o.new (.ins 0 [])
  have o2 := o1.new (.dic [])
  have z := setFD_obj (i := 0) (y := .obj (s ++ [Mo.ins 0 []]).length) (own2 o2).get (by simp)
  have o3 := (own2 o2).set (.ins 0 [.obj (s ++ [Mo.ins 0 []]).length])
  have p0 : putI 0 (Dt.obj (s ++ [Mo.ins 0 []]).length) [] = [.obj (s ++ [Mo.ins 0 []]).length] := rfl
  rw [p0] at z
  have o4 := o3.new (.dic [])
  have z2 := setFD_obj (i := 1) (y := .obj (((s ++ [Mo.ins 0 []]) ++ [Mo.dic []]).set s.length (.ins 0 [.obj (s ++ [Mo.ins 0 []]).length])).length) (own2 o4).get (by simp)
  have o5 := (own2 o4).set (.ins 0 [.obj (s ++ [Mo.ins 0 []]).length, .obj (((s ++ [Mo.ins 0 []]) ++ [Mo.dic []]).set s.length (.ins 0 [.obj (s ++ [Mo.ins 0 []]).length])).length])
  have p1 : ∀ a c : Dt, putI 1 c [a] = [a, c] := fun _ _ => rfl
  rw [p1] at z2
  refine ⟨_, _, _, ?_, o5.ix [0, 2, 1]⟩
  unfold m_Node_init b_Node_init
  simp only [fnOf, ev_seq, ev_asg, sBnd_def, ev_op, ev_un, bnd_def, ev_call, evs_cons, evs_nil, ev_var, ev_c, ev_if, ev_next, ev_expr, ev_tru, ev_bl, ev_and, ev_or, ev_not, ev_yes, ev_andE, ev_orE, ev_notE, ev_ifE, ev_chain, ofB_some, ofO_some, ofO_none, truD_non, truD_bl, truD_int, truD_str, truD_tup, truD_lst, truD_lsk, ev_tup, ev_lst, ev_nwF, ev_nwM, ev_meth, ev_make, ev_fld, ev_setF, ev_bm1, asQ_tup, asQ_lst, asQ_lsk, asL_lst, asL_lsk, dLen_tup, dLen_lst, dLen_lsk, dLen_str, dIx_tup, dIx_lst, dIx_lsk, dIx_str, dAdd_int, dNeg_int, isN_def, notN_def, isNon_non, isNon_int, isNon_bl, isNon_str, isNon_tup, isNon_lst, isNon_obj, isNon_exc, dEq_int, dNe_int, dEq_str, dNe_str, dEq_bl, atI_zero, atI_one, atI_2, atI_3, atI_4, atI_5, atI_6, atI_7, atI_8, atI_9, atI_10, atI_11, atI_12, atI_m1, ev_gT, setAll_nil, setAll_cons, iOp_int, ev_gN, ev_ret, List.map_cons, List.map_nil, List.length_cons, List.length_nil, rep_zero, rep_succ, List.cons_append, List.nil_append, List.getElem?_cons_zero, List.getElem?_cons_succ, List.set_cons_zero, List.set_cons_succ, Nat.sub_self, Nat.reduceAdd, Nat.reduceSub, Option.map_some, Option.bind_some, if_true, Bool.not_true, Bool.not_false, Bool.false_eq_true, if_false, decide_true, ev_dnewK, z, z2]
/-- one more node below a node -/
theorem Con.more {T : Tri} {tp N : Nat} {p : Pth} {x y : Nd} {l : List Nat} (c : Con T tp N) (h : valA T p = some x) (h2 : valA T (p ++ [l]) = none) (hy : y.ch = [] ∧ y.hs = []) :
    Con (putA (putA T p { x with ch := putA x.ch l y.i }) (p ++ [l]) y) tp (N + 1) ∧ (∀ q, hsAt (putA (putA T p { x with ch := putA x.ch l y.i }) (p ++ [l]) y) q = hsAt T q) ∧ valA (putA (putA T p { x with ch := putA x.ch l y.i }) (p ++ [l]) y) (p ++ [l]) = some y := by
  have pl : p ≠ p ++ [l] := fun e => by have := congrArg List.length e; simp at this
  have v : ∀ q, valA (putA (putA T p { x with ch := putA x.ch l y.i }) (p ++ [l]) y) q = if p ++ [l] = q then some y else if p = q then some { x with ch := putA x.ch l y.i } else valA T q := fun q => by rw [valA_put, valA_put]
  have vp : valA (putA (putA T p { x with ch := putA x.ch l y.i }) (p ++ [l]) y) p = some { x with ch := putA x.ch l y.i } := by rw [v, if_neg (fun z => pl z.symm), if_pos rfl]
  have vl : valA (putA (putA T p { x with ch := putA x.ch l y.i }) (p ++ [l]) y) (p ++ [l]) = some y := by rw [v, if_pos rfl]
  have mono : ∀ q, (valA T q).isSome = true → (valA (putA (putA T p { x with ch := putA x.ch l y.i }) (p ++ [l]) y) q).isSome = true := fun q hq => by
    rw [v]
    split
    · rfl
    · split
      · rfl
      · exact hq
  have inj : ∀ (q : Pth) (m : List Nat), q ++ [m] = p ++ [l] → q = p ∧ m = l := fun q m e => by
    have := List.append_inj' e rfl
    exact ⟨this.1, by simpa using this.2⟩
  refine ⟨⟨put_nodup (put_nodup c.nd _ _) _ _, ?_, ?_, ?_, ?_, ?_⟩, ?_, vl⟩
  · obtain ⟨t, h3, h4⟩ := c.top
    by_cases e : p = []
    · subst e
      refine ⟨_, vp, ?_⟩
      rw [h3] at h
      cases h
      exact h4
    · exact ⟨t, by rw [v, if_neg (by simp), if_neg e, h3], h4⟩
  · intro q z hz m
    rw [v] at hz
    split at hz
    · rename_i e
      cases hz
      rw [hy.1]
      have n1 : valA T (q ++ [m]) = none := by
        cases hh : valA T (q ++ [m]) with
        | none => rfl
        | some w =>
          have := c.up q m (by rw [hh]; rfl)
          rw [← e, h2] at this
          cases this
      rw [v, if_neg (fun z => by rw [← e] at z; have := congrArg List.length z; simp at this), if_neg (fun z => by rw [← e] at z; have := congrArg List.length z; simp at this), n1]
      rfl
    · split at hz
      · rename_i _ e
        cases hz
        show valA (putA x.ch l y.i) m = _
        rw [valA_put, ← e]
        by_cases e2 : l = m
        · rw [if_pos e2, ← e2, vl]; rfl
        · rw [if_neg e2, v, if_neg (fun z => e2 (inj p m z.symm).2.symm), if_neg (fun z => by have := congrArg List.length z; simp at this)]
          exact c.step p x h m
      · rename_i n1 n2
        rw [c.step q z hz m, v]
        split
        · rename_i e
          exact absurd (inj q m e.symm).1.symm n2
        · split
          · rename_i _ e
            rw [← e, h]
            rfl
          · rfl
  · intro q m hq
    rw [v] at hq
    split at hq
    · rename_i e
      rw [(inj q m e.symm).1, vp]; rfl
    · split at hq
      · rename_i _ e
        exact mono q (c.up q m (by rw [← e, h]; rfl))
      · exact mono q (c.up q m hq)
  · intro q z hz
    rw [v] at hz
    split at hz
    · cases hz
      rw [hy.1, hy.2]
      exact ⟨Nat.zero_le _, Nat.zero_le _⟩
    · split at hz
      · cases hz
        have := c.sz p x h
        have h3 := length_putA x.ch l y.i
        exact ⟨by show (putA x.ch l y.i).length ≤ _; omega, by show x.hs.length ≤ _; omega⟩
      · have := c.sz q z hz
        omega
  · intro q z hz
    rw [v] at hz
    split at hz
    · cases hz
      rw [hy.2]
      exact List.nodup_nil
    · split at hz
      · cases hz
        exact c.hn p x h
      · exact c.hn q z hz
  · intro q
    unfold hsAt
    rw [v]
    split
    · rename_i e
      rw [← e, h2]
      show y.hs = []
      exact hy.2
    · split
      · rename_i _ e
        rw [← e, h]
        rfl
      · rfl
/-- who hears at a node, anew -/
theorem Con.setHs {T : Tri} {tp N : Nat} {p : Pth} {x : Nd} {hs : Gr} (c : Con T tp N) (h : valA T p = some x) (hn : (hs.map (·.1)).Nodup) (hl : hs.length ≤ N) :
    Con (putA T p { x with hs := hs }) tp N ∧ ∀ q, hsAt (putA T p { x with hs := hs }) q = if p = q then hs else hsAt T q := by
  have v : ∀ q, valA (putA T p { x with hs := hs }) q = if p = q then some { x with hs := hs } else valA T q := fun q => valA_put ..
  have vi : ∀ q, (valA (putA T p { x with hs := hs }) q).map (·.i) = (valA T q).map (·.i) := fun q => by
    rw [v]
    split
    · rename_i e; rw [← e, h]; rfl
    · rfl
  have vs : ∀ q, (valA (putA T p { x with hs := hs }) q).isSome = (valA T q).isSome := fun q => by
    rw [v]
    split
    · rename_i e; rw [← e, h]; rfl
    · rfl
  refine ⟨⟨put_nodup c.nd _ _, ?_, ?_, fun q m hq => by rw [vs] at hq ⊢; exact c.up q m hq, ?_, ?_⟩, ?_⟩
  · obtain ⟨t, h3, h4⟩ := c.top
    by_cases e : p = []
    · refine ⟨{ x with hs := hs }, by rw [v, if_pos e], ?_⟩
      rw [e, h3] at h
      cases h
      exact h4
    · exact ⟨t, by rw [v, if_neg e, h3], h4⟩
  · intro q z hz m
    rw [vi]
    rw [v] at hz
    split at hz
    · rename_i e
      cases hz
      rw [← e]
      exact c.step p x h m
    · exact c.step q z hz m
  · intro q z hz
    rw [v] at hz
    split at hz
    · cases hz
      exact ⟨(c.sz p x h).1, hl⟩
    · exact c.sz q z hz
  · intro q z hz
    rw [v] at hz
    split at hz
    · cases hz
      exact hn
    · exact c.hn q z hz
  · intro q
    unfold hsAt
    rw [v]
    split
    · rfl
    · rfl
section
variable {T : Tri} {tp N : Nat} {p : Pth} {x : Nd} {R : List SP} {s : Sto}
theorem tri_get (nd : (T.map (·.1)).Nodup) (h : valA T p = some x) (o : Own (triS T ++ R) s) : s[x.i]? = some (.ins 0 [.obj x.b, .obj x.h]) ∧ s[x.b]? = some (.dic (chD x.ch)) ∧ s[x.h]? = some (.dic (hsD x.hs)) := by
  obtain ⟨K, h1, _⟩ := tri_at nd h
  have o1 := o.perm (h1.append_right R)
  have o1 : Own (At x.i (.ins 0 [.obj x.b, .obj x.h]) :: At x.b (.dic (chD x.ch)) :: At x.h (.dic (hsD x.hs)) :: (K ++ R)) s := o1
  exact ⟨o1.get, (own2 o1).get, (own3 o1).get⟩
theorem tri_setHs (nd : (T.map (·.1)).Nodup) (h : valA T p = some x) (o : Own (triS T ++ R) s) (hs : Gr) : Own (triS (putA T p { x with hs := hs }) ++ R) (s.set x.h (.dic (hsD hs))) := by
  obtain ⟨K, h1, h2⟩ := tri_at nd h
  have o1 := o.perm (h1.append_right R)
  have o1 : Own (At x.i (.ins 0 [.obj x.b, .obj x.h]) :: At x.b (.dic (chD x.ch)) :: At x.h (.dic (hsD x.hs)) :: (K ++ R)) s := o1
  have o2 := ((own3 o1).set (.dic (hsD hs))).ix [1, 2, 0]
  have o3 : Own (ndS { x with hs := hs } ++ K ++ R) (s.set x.h (.dic (hsD hs))) := o2
  exact o3.perm ((h2 _).symm.append_right R)
theorem node_step {sf wi lv0 : Option Dt} {l : List Nat} (c : Con T tp N) (h : valA T p = some x) (hN : N < 900000) (o : Own (triS T ++ R) s) :
    ∃ T' y s', l_Book_node_1 [sf, wi, some (.obj x.i), some (.str (mkS l))] s = .fl (.nx [sf, wi, some (.obj y.i), some (.str (mkS l))]) s' ∧ Own (triS T' ++ R) s' ∧ Con T' tp (N + 1) ∧ (∀ q, hsAt T' q = hsAt T q) ∧ valA T' (p ++ [l]) = some y := by
  obtain ⟨g1, g2, g3⟩ := tri_get c.nd h o
  have e1 := insD_obj g1
  have st := c.step p x h l
  have d1 := dg_txt (l := l) g2
  rw [st] at d1
  cases hy : valA T (p ++ [l]) with
  | some y =>
    rw [hy] at d1
    refine ⟨T, y, s, ?_, o, c.mono (by omega), fun _ => rfl, hy⟩
    unfold l_Book_node_1 w_Book_node_1 w_Book_node_2
    simp only [fnOf, ev_seq, ev_asg, sBnd_def, ev_op, ev_un, bnd_def, ev_call, evs_cons, evs_nil, ev_var, ev_c, ev_if, ev_next, ev_expr, ev_tru, ev_bl, ev_and, ev_or, ev_not, ev_yes, ev_andE, ev_orE, ev_notE, ev_ifE, ev_chain, ofB_some, ofO_some, ofO_none, truD_non, truD_bl, truD_int, truD_str, truD_tup, truD_lst, truD_lsk, ev_tup, ev_lst, ev_nwF, ev_nwM, ev_meth, ev_make, ev_fld, ev_setF, ev_bm1, asQ_tup, asQ_lst, asQ_lsk, asL_lst, asL_lsk, dLen_tup, dLen_lst, dLen_lsk, dLen_str, dIx_tup, dIx_lst, dIx_lsk, dIx_str, dAdd_int, dNeg_int, isN_def, notN_def, isNon_non, isNon_int, isNon_bl, isNon_str, isNon_tup, isNon_lst, isNon_obj, isNon_exc, dEq_int, dNe_int, dEq_str, dNe_str, dEq_bl, atI_zero, atI_one, atI_2, atI_3, atI_4, atI_5, atI_6, atI_7, atI_8, atI_9, atI_10, atI_11, atI_12, atI_m1, ev_gT, setAll_nil, setAll_cons, iOp_int, ev_gN, ev_ret, List.map_cons, List.map_nil, List.length_cons, List.length_nil, rep_zero, rep_succ, List.cons_append, List.nil_append, List.getElem?_cons_zero, List.getElem?_cons_succ, List.set_cons_zero, List.set_cons_succ, Nat.sub_self, Nat.reduceAdd, Nat.reduceSub, Option.map_some, Option.bind_some, if_true, Bool.not_true, Bool.not_false, Bool.false_eq_true, if_false, decide_true, decide_false, Int.reduceBEq, Int.reduceEq, Int.reduceLT, Int.reduceLE, Int.reduceNeg, Int.reduceAdd, Int.reduceSub, Int.reduceMul, Int.reduceToNat, Nat.reduceLT, Nat.reduceLeDiff, beq_self_eq_true, reduceIte, eq_self, Int.reduceNe, Int.reduceBNe, not_true_eq_false, not_false_eq_true, true_and, and_true, true_or, or_true, false_or, or_false, and_false, false_and, decide_eq_true_eq, Bool.true_and, Bool.and_true, Bool.false_and, Bool.and_false, Bool.true_or, Bool.or_true, Bool.false_or, Bool.or_false, e1, dDnotIn, dDget, d1, Option.isSome_some]
  | none =>
    rw [hy] at d1
    obtain ⟨b, hh, s1, h1, o1⟩ := nd_init o
    obtain ⟨c1, c2, c3⟩ := c.more (y := ⟨s.length, b, hh, [], []⟩) h hy ⟨rfl, rfl⟩
    have pm : (ndS ⟨s.length, b, hh, [], []⟩ ++ (triS T ++ R)).Perm (triS T ++ (ndS ⟨s.length, b, hh, [], []⟩ ++ R)) := List.perm_append_comm_assoc _ _ _
    have o2 := o1.perm pm
    obtain ⟨g4, g5, g6⟩ := tri_get c.nd h o2
    have e2 := insD_obj g4
    have d2 := dp_txt (l := l) (g := Dt.obj) (v := s.length) g5 (by have := (c.sz p x h).1; omega)
    obtain ⟨K, k1, k2⟩ := tri_at c.nd h
    have o3 : Own (At x.i (.ins 0 [.obj x.b, .obj x.h]) :: At x.b (.dic (chD x.ch)) :: At x.h (.dic (hsD x.hs)) :: (K ++ (ndS ⟨s.length, b, hh, [], []⟩ ++ R))) s1 := o2.perm (k1.append_right _)
    have o4 := ((own2 o3).set (.dic (chD (putA x.ch l s.length)))).ix [1, 0]
    have o5 : Own (ndS { x with ch := putA x.ch l s.length } ++ K ++ (ndS ⟨s.length, b, hh, [], []⟩ ++ R)) (s1.set x.b (.dic (chD (putA x.ch l s.length)))) := o4
    have o6 := o5.perm ((k2 _).symm.append_right _)
    have nn : valA (putA T p { x with ch := putA x.ch l s.length }) (p ++ [l]) = none := by
      rw [valA_put, if_neg (fun e => by have := congrArg List.length e; simp at this), hy]
    have o7 : Own (triS (putA (putA T p { x with ch := putA x.ch l s.length }) (p ++ [l]) ⟨s.length, b, hh, [], []⟩) ++ R) (s1.set x.b (.dic (chD (putA x.ch l s.length)))) := by
      rw [put_new nn, triS_app, List.append_assoc]
      exact o6
    have g7 := (own2 o4).get
    have e3 := insD_obj o4.get
    have d3 := dg_txt (l := l) g7
    rw [valA_put, if_pos rfl] at d3
    refine ⟨_, _, _, ?_, o7, c1, c2, c3⟩
    unfold l_Book_node_1 w_Book_node_1 w_Book_node_2
    simp only [fnOf, ev_seq, ev_asg, sBnd_def, ev_op, ev_un, bnd_def, ev_call, evs_cons, evs_nil, ev_var, ev_c, ev_if, ev_next, ev_expr, ev_tru, ev_bl, ev_and, ev_or, ev_not, ev_yes, ev_andE, ev_orE, ev_notE, ev_ifE, ev_chain, ofB_some, ofO_some, ofO_none, truD_non, truD_bl, truD_int, truD_str, truD_tup, truD_lst, truD_lsk, ev_tup, ev_lst, ev_nwF, ev_nwM, ev_meth, ev_make, ev_fld, ev_setF, ev_bm1, asQ_tup, asQ_lst, asQ_lsk, asL_lst, asL_lsk, dLen_tup, dLen_lst, dLen_lsk, dLen_str, dIx_tup, dIx_lst, dIx_lsk, dIx_str, dAdd_int, dNeg_int, isN_def, notN_def, isNon_non, isNon_int, isNon_bl, isNon_str, isNon_tup, isNon_lst, isNon_obj, isNon_exc, dEq_int, dNe_int, dEq_str, dNe_str, dEq_bl, atI_zero, atI_one, atI_2, atI_3, atI_4, atI_5, atI_6, atI_7, atI_8, atI_9, atI_10, atI_11, atI_12, atI_m1, ev_gT, setAll_nil, setAll_cons, iOp_int, ev_gN, ev_ret, List.map_cons, List.map_nil, List.length_cons, List.length_nil, rep_zero, rep_succ, List.cons_append, List.nil_append, List.getElem?_cons_zero, List.getElem?_cons_succ, List.set_cons_zero, List.set_cons_succ, Nat.sub_self, Nat.reduceAdd, Nat.reduceSub, Option.map_some, Option.bind_some, if_true, Bool.not_true, Bool.not_false, Bool.false_eq_true, if_false, decide_true, decide_false, Int.reduceBEq, Int.reduceEq, Int.reduceLT, Int.reduceLE, Int.reduceNeg, Int.reduceAdd, Int.reduceSub, Int.reduceMul, Int.reduceToNat, Nat.reduceLT, Nat.reduceLeDiff, beq_self_eq_true, reduceIte, eq_self, Int.reduceNe, Int.reduceBNe, not_true_eq_false, not_false_eq_true, true_and, and_true, true_or, or_true, false_or, or_false, and_false, false_and, decide_eq_true_eq, Bool.true_and, Bool.and_true, Bool.false_and, Bool.and_false, Bool.true_or, Bool.or_true, Bool.false_or, Bool.or_false, e1, dDnotIn, dDget, d1, Option.isSome_none, Option.map_none, h1, ev_dput, e2, d2, e3, d3]
/-- where a wish stands -/
theorem ev_node {bk rw : Nat} {w : List Nat} (c : Con T tp N) (hN : N + (splC 47 w).length < 900000) (o : Own (At bk (.ins 1 [.obj tp, .obj rw]) :: (triS T ++ R)) s) :
    ∃ T' y s', m_Book_node [.obj bk, .str (mkS w)] s = .ok (.obj y.i) s' ∧ Own (At bk (.ins 1 [.obj tp, .obj rw]) :: (triS T' ++ R)) s' ∧ Con T' tp (N + (splC 47 w).length) ∧ (∀ q, hsAt T' q = hsAt T q) ∧ valA T' (splC 47 w) = some y := by
  have e1 := insD_obj o.get
  obtain ⟨x0, t1, t2⟩ := c.top
  have o1 : Own (triS T ++ (At bk (.ins 1 [.obj tp, .obj rw]) :: R)) s := o.perm List.perm_middle.symm
  obtain ⟨e, s', h1, h2⟩ := for_map (tg := gN 3) (body := l_Book_node_1) (ok := fun _ => True) (f := fun l => Dt.str (mkS l))
    (fun pre env s' => ∃ (T' : Tri) (y : Nd) (lv : Option Dt), env = [some (.obj bk), some (.str (mkS w)), some (.obj y.i), lv] ∧ Own (triS T' ++ (At bk (.ins 1 [.obj tp, .obj rw]) :: R)) s' ∧ Con T' tp (N + pre.length) ∧ (∀ q, hsAt T' q = hsAt T q) ∧ valA T' pre = some y)
    (splC 47 w) [some (.obj bk), some (.str (mkS w)), some (.obj tp), none] s ⟨T, x0, none, by rw [t2], o1, c, fun _ => rfl, t1⟩
    (fun pre l post env s' hall hi => by
      obtain ⟨T', y, lv, k1, k2, k3, k4, k5⟩ := hi
      subst k1
      have hlen : pre.length < (splC 47 w).length := by rw [hall]; simp
      obtain ⟨T2, y2, s2, j1, j2, j3, j4, j5⟩ := node_step (sf := some (.obj bk)) (wi := some (.str (mkS w))) (lv0 := none) (l := l) k3 k5 (by omega) k2
      refine ⟨_, rfl, _, s2, .inl j1, T2, y2, _, rfl, j2, ?_, fun q => (j4 q).trans (k4 q), j5⟩
      rw [List.length_append, List.length_singleton, ← Nat.add_assoc]
      exact j3)
    (fun _ _ _ _ => trivial)
  obtain ⟨T', y, lv, k1, k2, k3, k4, k5⟩ := h2
  subst k1
  refine ⟨T', y, s', ?_, k2.perm List.perm_middle, k3, k4, k5⟩
  unfold m_Book_node b_Book_node u_Book_node_1 u_Book_node_2 u_Book_node_3
  simp only [fnOf, ev_seq, ev_asg, sBnd_def, ev_op, ev_un, bnd_def, ev_call, evs_cons, evs_nil, ev_var, ev_c, ev_if, ev_next, ev_expr, ev_tru, ev_bl, ev_and, ev_or, ev_not, ev_yes, ev_andE, ev_orE, ev_notE, ev_ifE, ev_chain, ofB_some, ofO_some, ofO_none, truD_non, truD_bl, truD_int, truD_str, truD_tup, truD_lst, truD_lsk, ev_tup, ev_lst, ev_nwF, ev_nwM, ev_meth, ev_make, ev_fld, ev_setF, ev_bm1, asQ_tup, asQ_lst, asQ_lsk, asL_lst, asL_lsk, dLen_tup, dLen_lst, dLen_lsk, dLen_str, dIx_tup, dIx_lst, dIx_lsk, dIx_str, dAdd_int, dNeg_int, isN_def, notN_def, isNon_non, isNon_int, isNon_bl, isNon_str, isNon_tup, isNon_lst, isNon_obj, isNon_exc, dEq_int, dNe_int, dEq_str, dNe_str, dEq_bl, atI_zero, atI_one, atI_2, atI_3, atI_4, atI_5, atI_6, atI_7, atI_8, atI_9, atI_10, atI_11, atI_12, atI_m1, ev_gT, setAll_nil, setAll_cons, iOp_int, ev_gN, ev_ret, List.map_cons, List.map_nil, List.length_cons, List.length_nil, rep_zero, rep_succ, List.cons_append, List.nil_append, List.getElem?_cons_zero, List.getElem?_cons_succ, List.set_cons_zero, List.set_cons_succ, Nat.sub_self, Nat.reduceAdd, Nat.reduceSub, Option.map_some, Option.bind_some, if_true, Bool.not_true, Bool.not_false, Bool.false_eq_true, if_false, decide_true, decide_false, Int.reduceBEq, Int.reduceEq, Int.reduceLT, Int.reduceLE, Int.reduceNeg, Int.reduceAdd, Int.reduceSub, Int.reduceMul, Int.reduceToNat, Nat.reduceLT, Nat.reduceLeDiff, beq_self_eq_true, reduceIte, eq_self, Int.reduceNe, Int.reduceBNe, not_true_eq_false, not_false_eq_true, true_and, and_true, true_or, or_true, false_or, or_false, and_false, false_and, decide_eq_true_eq, Bool.true_and, Bool.and_true, Bool.false_and, Bool.and_false, Bool.true_or, Bool.or_true, Bool.false_or, Bool.or_false, e1, ev_for, ev_iSeq, t_slash, isStr_str, dSplit_mk, h1]
/-- where a wish stands that stands there -/
theorem ev_nodeT {bk rw : Nat} {w : List Nat} {y : Nd} (c : Con T tp N) (h : valA T (splC 47 w) = some y) (o : Own (At bk (.ins 1 [.obj tp, .obj rw]) :: (triS T ++ R)) s) : m_Book_node [.obj bk, .str (mkS w)] s = .ok (.obj y.i) s := by
  have e1 := insD_obj o.get
  obtain ⟨x0, t1, t2⟩ := c.top
  obtain ⟨e, s', h1, k0, y', lv, k1, k5⟩ := for_map (tg := gN 3) (body := l_Book_node_1) (ok := fun _ => True) (f := fun l => Dt.str (mkS l))
    (fun pre env s' => s' = s ∧ ∃ (y : Nd) (lv : Option Dt), env = [some (.obj bk), some (.str (mkS w)), some (.obj y.i), lv] ∧ valA T pre = some y)
    (splC 47 w) [some (.obj bk), some (.str (mkS w)), some (.obj tp), none] s ⟨rfl, x0, none, by rw [t2], t1⟩
    (fun pre l post env s' hall hi => by
      obtain ⟨k0, z, lv, k1, k5⟩ := hi
      subst k1; subst k0
      have hs : (valA T (pre ++ [l])).isSome = true := c.ups post (pre ++ [l]) (by rw [List.append_assoc]; show (valA T (pre ++ l :: post)).isSome = true; rw [← hall, h]; rfl)
      obtain ⟨z2, hz⟩ := Option.isSome_iff_exists.mp hs
      obtain ⟨g1, g2, g3⟩ := tri_get c.nd k5 o.drop
      have e1 := insD_obj g1
      have d1 := dg_txt (l := l) g2
      rw [c.step pre z k5 l, hz] at d1
      have bd : l_Book_node_1 [some (.obj bk), some (.str (mkS w)), some (.obj z.i), some (.str (mkS l))] s' = .fl (.nx [some (.obj bk), some (.str (mkS w)), some (.obj z2.i), some (.str (mkS l))]) s' := by
        unfold l_Book_node_1 w_Book_node_1 w_Book_node_2
        simp only [fnOf, ev_seq, ev_asg, sBnd_def, ev_op, ev_un, bnd_def, ev_call, evs_cons, evs_nil, ev_var, ev_c, ev_if, ev_next, ev_expr, ev_tru, ev_bl, ev_and, ev_or, ev_not, ev_yes, ev_andE, ev_orE, ev_notE, ev_ifE, ev_chain, ofB_some, ofO_some, ofO_none, truD_non, truD_bl, truD_int, truD_str, truD_tup, truD_lst, truD_lsk, ev_tup, ev_lst, ev_nwF, ev_nwM, ev_meth, ev_make, ev_fld, ev_setF, ev_bm1, asQ_tup, asQ_lst, asQ_lsk, asL_lst, asL_lsk, dLen_tup, dLen_lst, dLen_lsk, dLen_str, dIx_tup, dIx_lst, dIx_lsk, dIx_str, dAdd_int, dNeg_int, isN_def, notN_def, isNon_non, isNon_int, isNon_bl, isNon_str, isNon_tup, isNon_lst, isNon_obj, isNon_exc, dEq_int, dNe_int, dEq_str, dNe_str, dEq_bl, atI_zero, atI_one, atI_2, atI_3, atI_4, atI_5, atI_6, atI_7, atI_8, atI_9, atI_10, atI_11, atI_12, atI_m1, ev_gT, setAll_nil, setAll_cons, iOp_int, ev_gN, ev_ret, List.map_cons, List.map_nil, List.length_cons, List.length_nil, rep_zero, rep_succ, List.cons_append, List.nil_append, List.getElem?_cons_zero, List.getElem?_cons_succ, List.set_cons_zero, List.set_cons_succ, Nat.sub_self, Nat.reduceAdd, Nat.reduceSub, Option.map_some, Option.bind_some, if_true, Bool.not_true, Bool.not_false, Bool.false_eq_true, if_false, decide_true, decide_false, Int.reduceBEq, Int.reduceEq, Int.reduceLT, Int.reduceLE, Int.reduceNeg, Int.reduceAdd, Int.reduceSub, Int.reduceMul, Int.reduceToNat, Nat.reduceLT, Nat.reduceLeDiff, beq_self_eq_true, reduceIte, eq_self, Int.reduceNe, Int.reduceBNe, not_true_eq_false, not_false_eq_true, true_and, and_true, true_or, or_true, false_or, or_false, and_false, false_and, decide_eq_true_eq, Bool.true_and, Bool.and_true, Bool.false_and, Bool.and_false, Bool.true_or, Bool.or_true, Bool.false_or, Bool.or_false, e1, dDnotIn, dDget, d1, Option.isSome_some]
      exact ⟨_, rfl, _, s', .inl bd, rfl, z2, _, rfl, hz⟩)
    (fun _ _ _ _ => trivial)
  subst k1; subst k0
  rw [h] at k5
  cases k5
  unfold m_Book_node b_Book_node u_Book_node_1 u_Book_node_2 u_Book_node_3
  simp only [fnOf, ev_seq, ev_asg, sBnd_def, ev_op, ev_un, bnd_def, ev_call, evs_cons, evs_nil, ev_var, ev_c, ev_if, ev_next, ev_expr, ev_tru, ev_bl, ev_and, ev_or, ev_not, ev_yes, ev_andE, ev_orE, ev_notE, ev_ifE, ev_chain, ofB_some, ofO_some, ofO_none, truD_non, truD_bl, truD_int, truD_str, truD_tup, truD_lst, truD_lsk, ev_tup, ev_lst, ev_nwF, ev_nwM, ev_meth, ev_make, ev_fld, ev_setF, ev_bm1, asQ_tup, asQ_lst, asQ_lsk, asL_lst, asL_lsk, dLen_tup, dLen_lst, dLen_lsk, dLen_str, dIx_tup, dIx_lst, dIx_lsk, dIx_str, dAdd_int, dNeg_int, isN_def, notN_def, isNon_non, isNon_int, isNon_bl, isNon_str, isNon_tup, isNon_lst, isNon_obj, isNon_exc, dEq_int, dNe_int, dEq_str, dNe_str, dEq_bl, atI_zero, atI_one, atI_2, atI_3, atI_4, atI_5, atI_6, atI_7, atI_8, atI_9, atI_10, atI_11, atI_12, atI_m1, ev_gT, setAll_nil, setAll_cons, iOp_int, ev_gN, ev_ret, List.map_cons, List.map_nil, List.length_cons, List.length_nil, rep_zero, rep_succ, List.cons_append, List.nil_append, List.getElem?_cons_zero, List.getElem?_cons_succ, List.set_cons_zero, List.set_cons_succ, Nat.sub_self, Nat.reduceAdd, Nat.reduceSub, Option.map_some, Option.bind_some, if_true, Bool.not_true, Bool.not_false, Bool.false_eq_true, if_false, decide_true, decide_false, Int.reduceBEq, Int.reduceEq, Int.reduceLT, Int.reduceLE, Int.reduceNeg, Int.reduceAdd, Int.reduceSub, Int.reduceMul, Int.reduceToNat, Nat.reduceLT, Nat.reduceLeDiff, beq_self_eq_true, reduceIte, eq_self, Int.reduceNe, Int.reduceBNe, not_true_eq_false, not_false_eq_true, true_and, and_true, true_or, or_true, false_or, or_false, and_false, false_and, decide_eq_true_eq, Bool.true_and, Bool.and_true, Bool.false_and, Bool.and_false, Bool.true_or, Bool.or_true, Bool.false_or, Bool.or_false, e1, ev_for, ev_iSeq, t_slash, isStr_str, dSplit_mk, h1]
end
end Tx
namespace Tx
open PySem L2 Pd
/-! ### books in the store -/
theorem splC_inj : ∀ (a b : List Nat), splC 47 a = splC 47 b → a = b
  | [], [], _ => rfl
  | [], d :: b, h => by
    exfalso
    by_cases e : d = 47
    · subst e
      rw [splC_hit] at h
      injection h with _ h
      exact splC_ne 47 b h.symm
    · obtain ⟨p, t, _, e2⟩ := splC_miss b e
      rw [e2] at h
      injection h with h _
      cases h
  | c :: a, [], h => by
    exfalso
    by_cases e : c = 47
    · subst e
      rw [splC_hit] at h
      injection h with _ h
      exact splC_ne 47 a h
    · obtain ⟨p, t, _, e2⟩ := splC_miss a e
      rw [e2] at h
      injection h with h _
      cases h
  | c :: a, d :: b, h => by
    by_cases e : c = 47
    · by_cases e' : d = 47
      · subst e; subst e'
        rw [splC_hit, splC_hit] at h
        injection h with _ h
        rw [splC_inj a b h]
      · subst e
        obtain ⟨p, t, _, e2⟩ := splC_miss b e'
        rw [e2, splC_hit] at h
        injection h with h _
        cases h
    · obtain ⟨p, t, e1, e2⟩ := splC_miss a e
      by_cases e' : d = 47
      · subst e'
        rw [e2, splC_hit] at h
        injection h with h _
        cases h
      · obtain ⟨p', t', e1', e2'⟩ := splC_miss b e'
        rw [e2, e2'] at h
        injection h with h h2
        injection h with h h3
        subst h h3 h2
        rw [splC_inj a b (by rw [e1, e1'])]
abbrev kP (k : List Nat × List Nat) : List Key := [kT k.1, kT k.2]
theorem kP_inj (a b : List Nat × List Nat) (h : kP a = kP b) : a = b := by
  simp only [kP, List.cons.injEq, and_true] at h
  exact Prod.ext (kT_inj h.1) (kT_inj h.2)
abbrev rowsD (rows : Rows) : List (List Key × Dt) := bothM kP Dt.int rows
abbrev kD (h w : List Nat) : Dt := .tup [.str (mkS h), .str (mkS w)]
theorem keysD_k {h w : List Nat} : keysD (kD h w) = some (kP (h, w)) := rfl
theorem dg_row {s : Sto} {r : Nat} {rows : Rows} {h w : List Nat} (e : s[r]? = some (.dit (rowsD rows))) : dgetD s (.obj r) (kD h w) = some ((valA rows (h, w)).map Dt.int) := by
  simp only [dgetD, e, keysD_k, Option.map_some]
  rw [← valA_map kP_inj]
theorem dg_rowL {s : Sto} {r : Nat} {rows : Rows} {h w : List Nat} (e : s[r]? = some (.ditL (rowsD rows))) : dgetD s (.obj r) (kD h w) = some ((valA rows (h, w)).map Dt.int) := by
  simp only [dgetD, e, keysD_k, Option.map_some]
  rw [← valA_map kP_inj]
theorem dp_row {s : Sto} {r : Nat} {rows : Rows} {h w : List Nat} {g : Int} (e : s[r]? = some (.dit (rowsD rows))) (hl : rows.length < 1000000) : dputD s (.obj r) (kD h w) (.int g) = some (s.set r (.dit (rowsD (putA rows (h, w) g)))) := by
  simp only [dputD, e, keysD_k, Option.bind_some]
  rw [if_pos (by unfold rowsD bothM; rw [List.length_map, sizeLine_eq]; omega), putA_map kP_inj]
theorem pop_row {s : Sto} {r : Nat} {rows : Rows} {h w : List Nat} {g : Int} (e : s[r]? = some (.dit (rowsD rows))) (hv : valA rows (h, w) = some g) : dpopD s (.obj r) (kD h w) = some (.int g, s.set r (.dit (rowsD (dropA rows (h, w))))) := by
  simp only [dpopD, e, keysD_k, Option.bind_some]
  rw [valA_map kP_inj, hv, dropA_map kP_inj]
  rfl
theorem pop_txt {s : Sto} {b : Nat} {m : Gr} {l : List Nat} {v : Int} (h : s[b]? = some (.dic (hsD m))) (hv : valA m l = some v) : dpopD s (.obj b) (.str (mkS l)) = some (.int v, s.set b (.dic (hsD (dropA m l)))) := by
  simp only [dpopD, h, keyD, Option.bind_some]
  rw [show Sum.inr (mkS l) = kT l from rfl, valA_map (fun a b => kT_inj), hv, dropA_map (fun a b => kT_inj)]
  rfl
theorem isDic_dit {s : Sto} {i : Nat} {l : List (List Key × Dt)} (h : s[i]? = some (.dit l)) : isDic s (.obj i) = true := by simp [isDic, h]
def BkA (bk : Nat) (rows : Rows) (N : Nat) : SP := Exi fun z : Nat × Nat × Tri => Sts (Pu (Con z.2.2 z.1 N ∧ Rel z.2.2 rows ∧ rows.length ≤ N) :: At bk (.ins 1 [.obj z.1, .obj z.2.1]) :: At z.2.1 (.dit (rowsD rows)) :: triS z.2.2)
theorem own_bk {bk N : Nat} {rows : Rows} {R : List SP} {s : Sto} : Own (BkA bk rows N :: R) s ↔ ∃ tp rw T, Con T tp N ∧ Rel T rows ∧ rows.length ≤ N ∧ Own (At bk (.ins 1 [.obj tp, .obj rw]) :: At rw (.dit (rowsD rows)) :: (triS T ++ R)) s := by
  unfold BkA
  simp only [own_ex, own_sts, List.cons_append, own_pu]
  constructor
  · rintro ⟨⟨tp, rw, T⟩, ⟨h1, h2, h3⟩, h4⟩
    exact ⟨tp, rw, T, h1, h2, h3, h4⟩
  · rintro ⟨tp, rw, T, h1, h2, h3, h4⟩
    exact ⟨⟨tp, rw, T⟩, ⟨h1, h2, h3⟩, h4⟩
theorem mem_hs {T : Tri} {tp N : Nat} (c : Con T tp N) (p : Pth) (h : List Nat) (g : Int) : (h, g) ∈ hsAt T p ↔ valA (hsAt T p) h = some g := by
  unfold hsAt
  cases hv : valA T p with
  | none => simp [valA]
  | some x => exact (valA_mem (c.hn p x hv)).symm
/-- a wish put -/
theorem Rel.put {T T' : Tri} {tp N tp' N' : Nat} {rows : Rows} {h w : List Nat} {g : Int} (r : Rel T rows) (c : Con T tp N) (c' : Con T' tp' N') (hh : isHearer h = true) (hw : isWish w = true) (hg : 0 ≤ g ∧ g ≤ 2)
    (e : ∀ q, hsAt T' q = if splC 47 w = q then putA (hsAt T (splC 47 w)) h g else hsAt T q) : Rel T' (putA rows (h, w) g) := by
  have nd := put_nodup r.rn (h, w) g
  refine ⟨nd, ?_, ?_, ?_⟩
  · intro h' w' g' hm
    rw [← valA_mem nd, valA_put] at hm
    split at hm
    · rename_i z
      cases hm
      cases z
      exact ⟨hh, hw, hg⟩
    · exact r.ok h' w' g' (valA_some hm)
  · intro h' w' g' hm
    rw [← valA_mem nd, valA_put] at hm
    rw [mem_hs c', e]
    split at hm
    · rename_i z
      cases hm
      cases z
      rw [if_pos rfl, valA_put, if_pos rfl]
    · rename_i z
      have k := r.into h' w' g' (valA_some hm)
      rw [mem_hs c] at k
      split
      · rename_i z2
        have z3 := splC_inj w w' z2
        subst z3
        rw [valA_put, if_neg (fun z4 => z (by rw [z4]))]
        exact k
      · exact k
  · intro p h' g' hm
    rw [mem_hs c', e] at hm
    have old : (h', g') ∈ hsAt T p → ¬ (h = h' ∧ splC 47 w = p) → ∃ w2, splC 47 w2 = p ∧ ((h', w2), g') ∈ putA rows (h, w) g := fun hm hne => by
      obtain ⟨w2, k1, k2⟩ := r.from' p h' g' hm
      refine ⟨w2, k1, ?_⟩
      rw [← valA_mem nd, valA_put, if_neg (fun z => hne (by cases z; exact ⟨rfl, k1⟩))]
      exact (valA_mem r.rn).mpr k2
    split at hm
    · rename_i z
      subst z
      rw [valA_put] at hm
      split at hm
      · rename_i z2
        cases hm
        subst z2
        exact ⟨w, rfl, by rw [← valA_mem nd, valA_put, if_pos rfl]⟩
      · rename_i z2
        exact old ((mem_hs c _ _ _).mpr hm) fun z => z2 z.1
    · rename_i z
      exact old ((mem_hs c _ _ _).mpr hm) fun z3 => z z3.2
/-- a wish dropped -/
theorem Rel.drop {T T' : Tri} {tp N tp' N' : Nat} {rows : Rows} {h w : List Nat} (r : Rel T rows) (c : Con T tp N) (c' : Con T' tp' N')
    (e : ∀ q, hsAt T' q = if splC 47 w = q then dropA (hsAt T (splC 47 w)) h else hsAt T q) : Rel T' (dropA rows (h, w)) := by
  have nd := drop_nodup r.rn (h, w)
  have v : ∀ k g, (k, g) ∈ dropA rows (h, w) ↔ k ≠ (h, w) ∧ (k, g) ∈ rows := fun k g => by
    rw [← valA_mem nd, valA_drop, ← valA_mem r.rn]
    split
    · rename_i z; simp [z]
    · rename_i z; simp [Ne.symm z]
  refine ⟨nd, ?_, ?_, ?_⟩
  · intro h' w' g' hm
    exact r.ok h' w' g' ((v _ _).mp hm).2
  · intro h' w' g' hm
    obtain ⟨k1, k2⟩ := (v _ _).mp hm
    have k := r.into h' w' g' k2
    rw [mem_hs c] at k
    rw [mem_hs c', e]
    split
    · rename_i z2
      have z3 := splC_inj w w' z2
      subst z3
      rw [valA_drop, if_neg (fun z4 => k1 (by rw [z4]))]
      exact k
    · exact k
  · intro p h' g' hm
    rw [mem_hs c', e] at hm
    have old : (h', g') ∈ hsAt T p → ¬ (h = h' ∧ splC 47 w = p) → ∃ w2, splC 47 w2 = p ∧ ((h', w2), g') ∈ dropA rows (h, w) := fun hm hne => by
      obtain ⟨w2, k1, k2⟩ := r.from' p h' g' hm
      exact ⟨w2, k1, (v _ _).mpr ⟨fun z => hne (by cases z; exact ⟨rfl, k1⟩), k2⟩⟩
    split at hm
    · rename_i z
      subst z
      rw [valA_drop] at hm
      split at hm
      · cases hm
      · rename_i z2
        exact old ((mem_hs c _ _ _).mpr hm) fun z => z2 z.1
    · rename_i z
      exact old ((mem_hs c _ _ _).mpr hm) fun z3 => z z3.2
theorem wish_len {w : List Nat} (h : isWish w = true) : (splC 47 w).length ≤ 8 := (wish_parts h).2.1
theorem ev_put {bk N : Nat} {rows : Rows} {h w : List Nat} {g : Int} {R : List SP} {s : Sto} (hh : isHearer h = true) (hw : isWish w = true) (hg : 0 ≤ g ∧ g ≤ 2) (hN : N < 800000) (o : Own (BkA bk rows N :: R) s) :
    ∃ s', m_Book_put [.obj bk, .str (mkS h), .str (mkS w), .int g] s = .ok (.bl (!(valA rows (h, w)).isSome)) s' ∧ Own (BkA bk (putA rows (h, w) g) (N + 9) :: R) s' := by
  obtain ⟨tp, rw, T, c, r, hl, o1⟩ := own_bk.mp o
  have e1 := insD_obj o1.get
  have d1 := dg_row (h := h) (w := w) (own2 o1).get
  have d2 := dp_row (h := h) (w := w) (g := g) (own2 o1).get (by omega)
  have o2 := own2 ((own2 o1).set (.dit (rowsD (putA rows (h, w) g))))
  have o3 : Own (At bk (.ins 1 [.obj tp, .obj rw]) :: (triS T ++ (At rw (.dit (rowsD (putA rows (h, w) g))) :: R))) (s.set rw (.dit (rowsD (putA rows (h, w) g)))) := o2.perm (List.Perm.cons _ List.perm_middle.symm)
  have w8 := wish_len hw
  obtain ⟨T', y, s2, h1, o4, c2, k1, k2⟩ := ev_node (w := w) c (by omega) o3
  have e2 := insD_obj o3.get
  have o5 : Own (triS T' ++ (At bk (.ins 1 [.obj tp, .obj rw]) :: (At rw (.dit (rowsD (putA rows (h, w) g))) :: R))) s2 := o4.perm List.perm_middle.symm
  obtain ⟨g1, g2, g3⟩ := tri_get c2.nd k2 o5
  have e3 := insD_obj g1
  have sz := c2.sz _ _ k2
  have d3 := dp_txt (l := h) (g := Dt.int) (v := g) g3 (by omega)
  have o6 := tri_setHs c2.nd k2 o5 (putA y.hs h g)
  have hn := put_nodup (c2.hn _ _ k2) h g
  have hz := length_putA y.hs h g
  obtain ⟨c3, k3⟩ := (c2.mono (show N + (splC 47 w).length ≤ N + 9 by omega)).setHs (hs := putA y.hs h g) k2 hn (by
    have := length_putA y.hs h g
    omega)
  have hy : hsAt T (splC 47 w) = y.hs := by
    rw [← k1]
    unfold hsAt
    rw [k2]
    rfl
  have r3 : Rel _ (putA rows (h, w) g) := r.put c c3 hh hw hg (fun q => by rw [k3, hy, k1])
  have hl3 := length_putA rows (h, w) g
  refine ⟨_, ?_, own_bk.mpr ⟨tp, rw, _, c3, r3, by omega, (o6.perm (List.perm_append_comm_assoc (triS (putA T' (splC 47 w) { y with hs := putA y.hs h g })) [At bk (.ins 1 [.obj tp, .obj rw]), At rw (.dit (rowsD (putA rows (h, w) g)))] R))⟩⟩
  have q1 : m_look_hearer [.str (mkS h)] s = .ok .non s := by rw [ev_look_hearer, hh, if_pos rfl]
  have q2 : m_look_wish [.str (mkS w)] s = .ok .non s := by rw [ev_look_wish, hw, if_pos rfl]
  have q3 : m_look_grade [.int g] s = .ok .non s := by rw [ev_look_grade, if_pos hg]
  unfold m_Book_put b_Book_put u_Book_put_1 u_Book_put_2 u_Book_put_3 u_Book_put_4 u_Book_put_5 u_Book_put_6 u_Book_put_7
  simp only [fnOf, ev_seq, ev_asg, sBnd_def, ev_op, ev_un, bnd_def, ev_call, evs_cons, evs_nil, ev_var, ev_c, ev_if, ev_next, ev_expr, ev_tru, ev_bl, ev_and, ev_or, ev_not, ev_yes, ev_andE, ev_orE, ev_notE, ev_ifE, ev_chain, ofB_some, ofO_some, ofO_none, truD_non, truD_bl, truD_int, truD_str, truD_tup, truD_lst, truD_lsk, ev_tup, ev_lst, ev_nwF, ev_nwM, ev_meth, ev_make, ev_fld, ev_setF, ev_bm1, asQ_tup, asQ_lst, asQ_lsk, asL_lst, asL_lsk, dLen_tup, dLen_lst, dLen_lsk, dLen_str, dIx_tup, dIx_lst, dIx_lsk, dIx_str, dAdd_int, dNeg_int, isN_def, notN_def, isNon_non, isNon_int, isNon_bl, isNon_str, isNon_tup, isNon_lst, isNon_obj, isNon_exc, dEq_int, dNe_int, dEq_str, dNe_str, dEq_bl, atI_zero, atI_one, atI_2, atI_3, atI_4, atI_5, atI_6, atI_7, atI_8, atI_9, atI_10, atI_11, atI_12, atI_m1, ev_gT, setAll_nil, setAll_cons, iOp_int, ev_gN, ev_ret, List.map_cons, List.map_nil, List.length_cons, List.length_nil, rep_zero, rep_succ, List.cons_append, List.nil_append, List.getElem?_cons_zero, List.getElem?_cons_succ, List.set_cons_zero, List.set_cons_succ, Nat.sub_self, Nat.reduceAdd, Nat.reduceSub, Option.map_some, Option.bind_some, if_true, Bool.not_true, Bool.not_false, Bool.false_eq_true, if_false, decide_true, decide_false, Int.reduceBEq, Int.reduceEq, Int.reduceLT, Int.reduceLE, Int.reduceNeg, Int.reduceAdd, Int.reduceSub, Int.reduceMul, Int.reduceToNat, Nat.reduceLT, Nat.reduceLeDiff, beq_self_eq_true, reduceIte, eq_self, Int.reduceNe, Int.reduceBNe, not_true_eq_false, not_false_eq_true, true_and, and_true, true_or, or_true, false_or, or_false, and_false, false_and, decide_eq_true_eq, Bool.true_and, Bool.and_true, Bool.false_and, Bool.and_false, Bool.true_or, Bool.or_true, Bool.false_or, Bool.or_false, q1, q2, q3, e1, dDnotIn, d1, Option.isSome_map, ev_dput, d2, e2, h1, e3, d3]
/-- what is refused -/
theorem no_put {bk : Nat} {h w : List Nat} {g : Int} {s : Sto} (hr : isHearer h = false ∨ isWish w = false ∨ ¬ (0 ≤ g ∧ g ≤ 2)) : m_Book_put [.obj bk, .str (mkS h), .str (mkS w), .int g] s = .exc 3 s := by
  have q1 := ev_look_hearer h s
  have q2 := ev_look_wish w s
  have q3 := ev_look_grade g s
  unfold m_Book_put b_Book_put u_Book_put_1 u_Book_put_2 u_Book_put_3
  cases hh : isHearer h with
  | false =>
    rw [hh, if_neg Bool.false_ne_true] at q1
    simp only [fnOf, ev_seq, ev_asg, sBnd_def, ev_op, ev_un, bnd_def, ev_call, evs_cons, evs_nil, ev_var, ev_c, ev_if, ev_next, ev_expr, ev_tru, ev_bl, ev_and, ev_or, ev_not, ev_yes, ev_andE, ev_orE, ev_notE, ev_ifE, ev_chain, ofB_some, ofO_some, ofO_none, truD_non, truD_bl, truD_int, truD_str, truD_tup, truD_lst, truD_lsk, ev_tup, ev_lst, ev_nwF, ev_nwM, ev_meth, ev_make, ev_fld, ev_setF, ev_bm1, asQ_tup, asQ_lst, asQ_lsk, asL_lst, asL_lsk, dLen_tup, dLen_lst, dLen_lsk, dLen_str, dIx_tup, dIx_lst, dIx_lsk, dIx_str, dAdd_int, dNeg_int, isN_def, notN_def, isNon_non, isNon_int, isNon_bl, isNon_str, isNon_tup, isNon_lst, isNon_obj, isNon_exc, dEq_int, dNe_int, dEq_str, dNe_str, dEq_bl, atI_zero, atI_one, atI_2, atI_3, atI_4, atI_5, atI_6, atI_7, atI_8, atI_9, atI_10, atI_11, atI_12, atI_m1, ev_gT, setAll_nil, setAll_cons, iOp_int, ev_gN, ev_ret, List.map_cons, List.map_nil, List.length_cons, List.length_nil, rep_zero, rep_succ, List.cons_append, List.nil_append, List.getElem?_cons_zero, List.getElem?_cons_succ, List.set_cons_zero, List.set_cons_succ, Nat.sub_self, Nat.reduceAdd, Nat.reduceSub, Option.map_some, Option.bind_some, if_true, Bool.not_true, Bool.not_false, Bool.false_eq_true, if_false, decide_true, decide_false, Int.reduceBEq, Int.reduceEq, Int.reduceLT, Int.reduceLE, Int.reduceNeg, Int.reduceAdd, Int.reduceSub, Int.reduceMul, Int.reduceToNat, Nat.reduceLT, Nat.reduceLeDiff, beq_self_eq_true, reduceIte, eq_self, Int.reduceNe, Int.reduceBNe, not_true_eq_false, not_false_eq_true, true_and, and_true, true_or, or_true, false_or, or_false, and_false, false_and, decide_eq_true_eq, Bool.true_and, Bool.and_true, Bool.false_and, Bool.and_false, Bool.true_or, Bool.or_true, Bool.false_or, Bool.or_false, q1]
  | true =>
    rw [hh, if_pos rfl] at q1
    cases hw : isWish w with
    | false =>
      rw [hw, if_neg Bool.false_ne_true] at q2
      simp only [fnOf, ev_seq, ev_asg, sBnd_def, ev_op, ev_un, bnd_def, ev_call, evs_cons, evs_nil, ev_var, ev_c, ev_if, ev_next, ev_expr, ev_tru, ev_bl, ev_and, ev_or, ev_not, ev_yes, ev_andE, ev_orE, ev_notE, ev_ifE, ev_chain, ofB_some, ofO_some, ofO_none, truD_non, truD_bl, truD_int, truD_str, truD_tup, truD_lst, truD_lsk, ev_tup, ev_lst, ev_nwF, ev_nwM, ev_meth, ev_make, ev_fld, ev_setF, ev_bm1, asQ_tup, asQ_lst, asQ_lsk, asL_lst, asL_lsk, dLen_tup, dLen_lst, dLen_lsk, dLen_str, dIx_tup, dIx_lst, dIx_lsk, dIx_str, dAdd_int, dNeg_int, isN_def, notN_def, isNon_non, isNon_int, isNon_bl, isNon_str, isNon_tup, isNon_lst, isNon_obj, isNon_exc, dEq_int, dNe_int, dEq_str, dNe_str, dEq_bl, atI_zero, atI_one, atI_2, atI_3, atI_4, atI_5, atI_6, atI_7, atI_8, atI_9, atI_10, atI_11, atI_12, atI_m1, ev_gT, setAll_nil, setAll_cons, iOp_int, ev_gN, ev_ret, List.map_cons, List.map_nil, List.length_cons, List.length_nil, rep_zero, rep_succ, List.cons_append, List.nil_append, List.getElem?_cons_zero, List.getElem?_cons_succ, List.set_cons_zero, List.set_cons_succ, Nat.sub_self, Nat.reduceAdd, Nat.reduceSub, Option.map_some, Option.bind_some, if_true, Bool.not_true, Bool.not_false, Bool.false_eq_true, if_false, decide_true, decide_false, Int.reduceBEq, Int.reduceEq, Int.reduceLT, Int.reduceLE, Int.reduceNeg, Int.reduceAdd, Int.reduceSub, Int.reduceMul, Int.reduceToNat, Nat.reduceLT, Nat.reduceLeDiff, beq_self_eq_true, reduceIte, eq_self, Int.reduceNe, Int.reduceBNe, not_true_eq_false, not_false_eq_true, true_and, and_true, true_or, or_true, false_or, or_false, and_false, false_and, decide_eq_true_eq, Bool.true_and, Bool.and_true, Bool.false_and, Bool.and_false, Bool.true_or, Bool.or_true, Bool.false_or, Bool.or_false, q1, q2]
    | true =>
      rw [hw, if_pos rfl] at q2
      rw [hh, hw] at hr
      have hg : ¬ (0 ≤ g ∧ g ≤ 2) := by
        rcases hr with z | z | z
        · cases z
        · cases z
        · exact z
      rw [if_neg hg] at q3
      simp only [fnOf, ev_seq, ev_asg, sBnd_def, ev_op, ev_un, bnd_def, ev_call, evs_cons, evs_nil, ev_var, ev_c, ev_if, ev_next, ev_expr, ev_tru, ev_bl, ev_and, ev_or, ev_not, ev_yes, ev_andE, ev_orE, ev_notE, ev_ifE, ev_chain, ofB_some, ofO_some, ofO_none, truD_non, truD_bl, truD_int, truD_str, truD_tup, truD_lst, truD_lsk, ev_tup, ev_lst, ev_nwF, ev_nwM, ev_meth, ev_make, ev_fld, ev_setF, ev_bm1, asQ_tup, asQ_lst, asQ_lsk, asL_lst, asL_lsk, dLen_tup, dLen_lst, dLen_lsk, dLen_str, dIx_tup, dIx_lst, dIx_lsk, dIx_str, dAdd_int, dNeg_int, isN_def, notN_def, isNon_non, isNon_int, isNon_bl, isNon_str, isNon_tup, isNon_lst, isNon_obj, isNon_exc, dEq_int, dNe_int, dEq_str, dNe_str, dEq_bl, atI_zero, atI_one, atI_2, atI_3, atI_4, atI_5, atI_6, atI_7, atI_8, atI_9, atI_10, atI_11, atI_12, atI_m1, ev_gT, setAll_nil, setAll_cons, iOp_int, ev_gN, ev_ret, List.map_cons, List.map_nil, List.length_cons, List.length_nil, rep_zero, rep_succ, List.cons_append, List.nil_append, List.getElem?_cons_zero, List.getElem?_cons_succ, List.set_cons_zero, List.set_cons_succ, Nat.sub_self, Nat.reduceAdd, Nat.reduceSub, Option.map_some, Option.bind_some, if_true, Bool.not_true, Bool.not_false, Bool.false_eq_true, if_false, decide_true, decide_false, Int.reduceBEq, Int.reduceEq, Int.reduceLT, Int.reduceLE, Int.reduceNeg, Int.reduceAdd, Int.reduceSub, Int.reduceMul, Int.reduceToNat, Nat.reduceLT, Nat.reduceLeDiff, beq_self_eq_true, reduceIte, eq_self, Int.reduceNe, Int.reduceBNe, not_true_eq_false, not_false_eq_true, true_and, and_true, true_or, or_true, false_or, or_false, and_false, false_and, decide_eq_true_eq, Bool.true_and, Bool.and_true, Bool.false_and, Bool.and_false, Bool.true_or, Bool.or_true, Bool.false_or, Bool.or_false, q1, q2, q3]
theorem ev_drop {bk N : Nat} {rows : Rows} {h w : List Nat} {R : List SP} {s : Sto} (o : Own (BkA bk rows N :: R) s) :
    ∃ s', m_Book_drop [.obj bk, .str (mkS h), .str (mkS w)] s = .ok (.bl (valA rows (h, w)).isSome) s' ∧ Own (BkA bk (dropA rows (h, w)) N :: R) s' := by
  obtain ⟨tp, rw, T, c, r, hl, o1⟩ := own_bk.mp o
  have e1 := insD_obj o1.get
  have d1 := dg_row (h := h) (w := w) (own2 o1).get
  cases hv : valA rows (h, w) with
  | none =>
    rw [hv] at d1
    refine ⟨s, ?_, ?_⟩
    · unfold m_Book_drop b_Book_drop u_Book_drop_1
      simp only [fnOf, ev_seq, ev_asg, sBnd_def, ev_op, ev_un, bnd_def, ev_call, evs_cons, evs_nil, ev_var, ev_c, ev_if, ev_next, ev_expr, ev_tru, ev_bl, ev_and, ev_or, ev_not, ev_yes, ev_andE, ev_orE, ev_notE, ev_ifE, ev_chain, ofB_some, ofO_some, ofO_none, truD_non, truD_bl, truD_int, truD_str, truD_tup, truD_lst, truD_lsk, ev_tup, ev_lst, ev_nwF, ev_nwM, ev_meth, ev_make, ev_fld, ev_setF, ev_bm1, asQ_tup, asQ_lst, asQ_lsk, asL_lst, asL_lsk, dLen_tup, dLen_lst, dLen_lsk, dLen_str, dIx_tup, dIx_lst, dIx_lsk, dIx_str, dAdd_int, dNeg_int, isN_def, notN_def, isNon_non, isNon_int, isNon_bl, isNon_str, isNon_tup, isNon_lst, isNon_obj, isNon_exc, dEq_int, dNe_int, dEq_str, dNe_str, dEq_bl, atI_zero, atI_one, atI_2, atI_3, atI_4, atI_5, atI_6, atI_7, atI_8, atI_9, atI_10, atI_11, atI_12, atI_m1, ev_gT, setAll_nil, setAll_cons, iOp_int, ev_gN, ev_ret, List.map_cons, List.map_nil, List.length_cons, List.length_nil, rep_zero, rep_succ, List.cons_append, List.nil_append, List.getElem?_cons_zero, List.getElem?_cons_succ, List.set_cons_zero, List.set_cons_succ, Nat.sub_self, Nat.reduceAdd, Nat.reduceSub, Option.map_some, Option.bind_some, if_true, Bool.not_true, Bool.not_false, Bool.false_eq_true, if_false, decide_true, decide_false, Int.reduceBEq, Int.reduceEq, Int.reduceLT, Int.reduceLE, Int.reduceNeg, Int.reduceAdd, Int.reduceSub, Int.reduceMul, Int.reduceToNat, Nat.reduceLT, Nat.reduceLeDiff, beq_self_eq_true, reduceIte, eq_self, Int.reduceNe, Int.reduceBNe, not_true_eq_false, not_false_eq_true, true_and, and_true, true_or, or_true, false_or, or_false, and_false, false_and, decide_eq_true_eq, Bool.true_and, Bool.and_true, Bool.false_and, Bool.and_false, Bool.true_or, Bool.or_true, Bool.false_or, Bool.or_false, e1, dDnotIn, d1, Option.map_none, Option.isSome_none]
    · have e : dropA rows (h, w) = rows := by
        unfold dropA
        rw [List.filter_eq_self]
        intro x hx
        have := valA_none.mp hv
        simp only [decide_eq_true_eq]
        exact fun z => this (by rw [← z]; exact List.mem_map.mpr ⟨x, hx, rfl⟩)
      rw [e]
      exact o
  | some g =>
    rw [hv] at d1
    have rk := r.ok h w g (valA_some hv)
    have d2 := pop_row (own2 o1).get hv
    have i1 := isDic_dit (own2 o1).get
    have o2 := own2 ((own2 o1).set (.dit (rowsD (dropA rows (h, w)))))
    have o3 : Own (At bk (.ins 1 [.obj tp, .obj rw]) :: (triS T ++ (At rw (.dit (rowsD (dropA rows (h, w)))) :: R))) (s.set rw (.dit (rowsD (dropA rows (h, w))))) := o2.perm (List.Perm.cons _ List.perm_middle.symm)
    obtain ⟨y, k2, _⟩ := hsAt_some (r.into h w g (valA_some hv))
    have h1 := ev_nodeT (w := w) c k2 o3
    have e2 := insD_obj o3.get
    have o5 : Own (triS T ++ (At bk (.ins 1 [.obj tp, .obj rw]) :: (At rw (.dit (rowsD (dropA rows (h, w)))) :: R))) (s.set rw (.dit (rowsD (dropA rows (h, w))))) := o3.perm List.perm_middle.symm
    obtain ⟨g1, g2, g3⟩ := tri_get c.nd k2 o5
    have e3 := insD_obj g1
    have hy : hsAt T (splC 47 w) = y.hs := by
      unfold hsAt
      rw [k2]
      rfl
    have hv2 : valA y.hs h = some g := by
      rw [← hy, ← mem_hs c]
      exact r.into h w g (valA_some hv)
    have d3 := pop_txt (l := h) g3 hv2
    have i2 := isDic_dic g3
    have o6 := tri_setHs c.nd k2 o5 (dropA y.hs h)
    have hn := drop_nodup (c.hn _ _ k2) h
    have sz := c.sz _ _ k2
    have hz : (dropA y.hs h).length ≤ y.hs.length := List.length_filter_le _ _
    obtain ⟨c3, k3⟩ := c.setHs (hs := dropA y.hs h) k2 hn (by omega)
    have r3 : Rel _ (dropA rows (h, w)) := r.drop c c3 (fun q => by rw [k3, hy])
    have hl3 : (dropA rows (h, w)).length ≤ rows.length := List.length_filter_le _ _
    refine ⟨_, ?_, own_bk.mpr ⟨tp, rw, _, c3, r3, by omega, (o6.perm (List.perm_append_comm_assoc (triS (putA T (splC 47 w) { y with hs := dropA y.hs h })) [At bk (.ins 1 [.obj tp, .obj rw]), At rw (.dit (rowsD (dropA rows (h, w))))] R))⟩⟩
    unfold m_Book_drop b_Book_drop u_Book_drop_1 u_Book_drop_2 u_Book_drop_3 u_Book_drop_4
    simp only [fnOf, ev_seq, ev_asg, sBnd_def, ev_op, ev_un, bnd_def, ev_call, evs_cons, evs_nil, ev_var, ev_c, ev_if, ev_next, ev_expr, ev_tru, ev_bl, ev_and, ev_or, ev_not, ev_yes, ev_andE, ev_orE, ev_notE, ev_ifE, ev_chain, ofB_some, ofO_some, ofO_none, truD_non, truD_bl, truD_int, truD_str, truD_tup, truD_lst, truD_lsk, ev_tup, ev_lst, ev_nwF, ev_nwM, ev_meth, ev_make, ev_fld, ev_setF, ev_bm1, asQ_tup, asQ_lst, asQ_lsk, asL_lst, asL_lsk, dLen_tup, dLen_lst, dLen_lsk, dLen_str, dIx_tup, dIx_lst, dIx_lsk, dIx_str, dAdd_int, dNeg_int, isN_def, notN_def, isNon_non, isNon_int, isNon_bl, isNon_str, isNon_tup, isNon_lst, isNon_obj, isNon_exc, dEq_int, dNe_int, dEq_str, dNe_str, dEq_bl, atI_zero, atI_one, atI_2, atI_3, atI_4, atI_5, atI_6, atI_7, atI_8, atI_9, atI_10, atI_11, atI_12, atI_m1, ev_gT, setAll_nil, setAll_cons, iOp_int, ev_gN, ev_ret, List.map_cons, List.map_nil, List.length_cons, List.length_nil, rep_zero, rep_succ, List.cons_append, List.nil_append, List.getElem?_cons_zero, List.getElem?_cons_succ, List.set_cons_zero, List.set_cons_succ, Nat.sub_self, Nat.reduceAdd, Nat.reduceSub, Option.map_some, Option.bind_some, if_true, Bool.not_true, Bool.not_false, Bool.false_eq_true, if_false, decide_true, decide_false, Int.reduceBEq, Int.reduceEq, Int.reduceLT, Int.reduceLE, Int.reduceNeg, Int.reduceAdd, Int.reduceSub, Int.reduceMul, Int.reduceToNat, Nat.reduceLT, Nat.reduceLeDiff, beq_self_eq_true, reduceIte, eq_self, Int.reduceNe, Int.reduceBNe, not_true_eq_false, not_false_eq_true, true_and, and_true, true_or, or_true, false_or, or_false, and_false, false_and, decide_eq_true_eq, Bool.true_and, Bool.and_true, Bool.false_and, Bool.and_false, Bool.true_or, Bool.or_true, Bool.false_or, Bool.or_false, e1, dDnotIn, d1, Option.isSome_some, ev_dpop1, i1, d2, e2, h1, e3, i2, d3]
end Tx
namespace Tx
open PySem L2 Pd
/-! ### who hears -/
theorem gat_len (c : Gr) : ∀ m : Gr, (gat m c).length ≤ m.length + c.length := by
  induction c with
  | nil => intro m; exact Nat.le_refl _
  | cons e c ih =>
    intro m
    have h1 := ih (putA m e.1 (max ((valA m e.1).getD 0) e.2))
    have h2 := length_putA m e.1 (max ((valA m e.1).getD 0) e.2)
    show (gat (putA m e.1 (max ((valA m e.1).getD 0) e.2)) c).length ≤ _
    simp only [List.length_cons]
    omega
theorem ev_dget2 {fo fe fx : Ex} {env : En} {s : Sto} : eDget2 fo fe fx env s = bnd (fo env) (fun x s => if isDic s x = true then bnd (fe env) (fun y => bnd (fx env) fun z s => match dgetD s x y with | some o => .ok (o.getD z) s | none => .bad) s else .bad) s := rfl
theorem max_if (i j : Int) : (if i < j then j else i) = max i j := by split <;> omega
/-- the loop's turn: one hearer more -/
theorem put_max {f : Nat} {m : Gr} {h : List Nat} {g : Int} {s : Sto} (e : s[f]? = some (.dic (hsD m))) (hl : m.length < 1000000) : dgetD s (.obj f) (.str (mkS h)) = some ((valA m h).map Dt.int) ∧ dMax (((valA m h).map Dt.int).getD (.int 0)) (.int g) s = .ok (.int (max ((valA m h).getD 0) g)) s ∧ dputD s (.obj f) (.str (mkS h)) (.int (max ((valA m h).getD 0) g)) = some (s.set f (.dic (hsD (putA m h (max ((valA m h).getD 0) g))))) := by
  refine ⟨dg_txt e, ?_, dp_txt (g := Dt.int) e hl⟩
  have : ((valA m h).map Dt.int).getD (.int 0) = .int ((valA m h).getD 0) := by cases valA m h <;> rfl
  rw [this]
  unfold dMax
  rw [iOp_int, if_pos rfl]
  exact congrArg (fun z => Out.ok (Dt.int z) s) (max_if _ _)
theorem keys_hs (l : Gr) : ((hsD l).map fun kv => keyDt kv.1) = l.map fun e => Dt.str (mkS e.1) := by
  unfold hsD bothM
  rw [List.map_map]
  rfl
theorem ev_take {bk : Dt} {i b hh f : Nat} {hs m : Gr} {R : List SP} {s : Sto} (nd : (hs.map (·.1)).Nodup) (hl : m.length + hs.length < 900000) (o : Own (At i (.ins 0 [.obj b, .obj hh]) :: At hh (.dic (hsD hs)) :: At f (.dic (hsD m)) :: R) s) :
    ∃ s', m_Book_take [bk, .obj i, .obj f] s = .ok .non s' ∧ Own (At i (.ins 0 [.obj b, .obj hh]) :: At hh (.dic (hsD hs)) :: At f (.dic (hsD (gat m hs))) :: R) s' := by
  have e1 := insD_obj o.get
  have g2 := (own2 o).get
  have o1 := own2 ((own2 o).set (.dicL (hsD hs)))
  have e2 := insD_obj o1.get
  have g3 := (own2 o1).get
  obtain ⟨e, s', h1, hv, h2, h3⟩ := for_map (tg := gN 3) (body := l_Book_take_1) (ok := fun s' => s'[hh]? = some (.dicL (hsD hs))) (f := fun e : List Nat × Int => Dt.str (mkS e.1))
    (fun pre env s' => ∃ hv, env = [some bk, some (.obj i), some (.obj f), hv] ∧ Own (At i (.ins 0 [.obj b, .obj hh]) :: At hh (.dicL (hsD hs)) :: At f (.dic (hsD (gat m pre))) :: R) s')
    hs [some bk, some (.obj i), some (.obj f), none] (s.set hh (.dicL (hsD hs))) ⟨none, rfl, o1⟩
    (fun pre e post env s' hall hi => by
      obtain ⟨hv, k1, k2⟩ := hi
      subst k1
      have z1 := insD_obj k2.get
      have z2 := dg_txtL (l := e.1) (own2 k2).get
      have he : valA hs e.1 = some e.2 := (valA_mem nd).mpr (by rw [hall]; simp)
      rw [he] at z2
      have hgl := gat_len pre m
      have hpl : pre.length ≤ hs.length := by rw [hall]; simp
      obtain ⟨z3, z4, z5⟩ := put_max (h := e.1) (g := e.2) (own3 k2).get (by omega)
      have z6 := isDic_dic (own3 k2).get
      have o2 := ((own3 k2).set (.dic (hsD (putA (gat m pre) e.1 (max ((valA (gat m pre) e.1).getD 0) e.2))))).ix [1, 2, 0]
      have o3 : Own (At i (.ins 0 [.obj b, .obj hh]) :: At hh (.dicL (hsD hs)) :: At f (.dic (hsD (gat m (pre ++ [e])))) :: R) (s'.set f (.dic (hsD (putA (gat m pre) e.1 (max ((valA (gat m pre) e.1).getD 0) e.2))))) := by
        rw [gat_app]
        exact o2
      have bd : l_Book_take_1 [some bk, some (.obj i), some (.obj f), some (.str (mkS e.1))] s' = .fl (.nx [some bk, some (.obj i), some (.obj f), some (.str (mkS e.1))]) (s'.set f (.dic (hsD (putA (gat m pre) e.1 (max ((valA (gat m pre) e.1).getD 0) e.2))))) := by
        unfold l_Book_take_1
        simp only [fnOf, ev_seq, ev_asg, sBnd_def, ev_op, ev_un, bnd_def, ev_call, evs_cons, evs_nil, ev_var, ev_c, ev_if, ev_next, ev_expr, ev_tru, ev_bl, ev_and, ev_or, ev_not, ev_yes, ev_andE, ev_orE, ev_notE, ev_ifE, ev_chain, ofB_some, ofO_some, ofO_none, truD_non, truD_bl, truD_int, truD_str, truD_tup, truD_lst, truD_lsk, ev_tup, ev_lst, ev_nwF, ev_nwM, ev_meth, ev_make, ev_fld, ev_setF, ev_bm1, asQ_tup, asQ_lst, asQ_lsk, asL_lst, asL_lsk, dLen_tup, dLen_lst, dLen_lsk, dLen_str, dIx_tup, dIx_lst, dIx_lsk, dIx_str, dAdd_int, dNeg_int, isN_def, notN_def, isNon_non, isNon_int, isNon_bl, isNon_str, isNon_tup, isNon_lst, isNon_obj, isNon_exc, dEq_int, dNe_int, dEq_str, dNe_str, dEq_bl, atI_zero, atI_one, atI_2, atI_3, atI_4, atI_5, atI_6, atI_7, atI_8, atI_9, atI_10, atI_11, atI_12, atI_m1, ev_gT, setAll_nil, setAll_cons, iOp_int, ev_gN, ev_ret, List.map_cons, List.map_nil, List.length_cons, List.length_nil, rep_zero, rep_succ, List.cons_append, List.nil_append, List.getElem?_cons_zero, List.getElem?_cons_succ, List.set_cons_zero, List.set_cons_succ, Nat.sub_self, Nat.reduceAdd, Nat.reduceSub, Option.map_some, Option.bind_some, if_true, Bool.not_true, Bool.not_false, Bool.false_eq_true, if_false, decide_true, decide_false, Int.reduceBEq, Int.reduceEq, Int.reduceLT, Int.reduceLE, Int.reduceNeg, Int.reduceAdd, Int.reduceSub, Int.reduceMul, Int.reduceToNat, Nat.reduceLT, Nat.reduceLeDiff, beq_self_eq_true, reduceIte, eq_self, Int.reduceNe, Int.reduceBNe, not_true_eq_false, not_false_eq_true, true_and, and_true, true_or, or_true, false_or, or_false, and_false, false_and, decide_eq_true_eq, Bool.true_and, Bool.and_true, Bool.false_and, Bool.and_false, Bool.true_or, Bool.or_true, Bool.false_or, Bool.or_false, ev_dput, ev_dget2, z6, z3, z1, dDget, z2, z4, z5]
      exact ⟨_, rfl, _, _, .inl bd, some (.str (mkS e.1)), rfl, o3⟩)
    (fun pre env s' hi => by
      obtain ⟨hv, k1, k2⟩ := hi
      exact (own2 k2).get)
  subst h2
  have q1 : (eFld 0 1 (eVar 1)) [some bk, some (.obj i), some (.obj f), none] s = .ok (.obj hh) s := by simp only [fnOf, ev_seq, ev_asg, sBnd_def, ev_op, ev_un, bnd_def, ev_call, evs_cons, evs_nil, ev_var, ev_c, ev_if, ev_next, ev_expr, ev_tru, ev_bl, ev_and, ev_or, ev_not, ev_yes, ev_andE, ev_orE, ev_notE, ev_ifE, ev_chain, ofB_some, ofO_some, ofO_none, truD_non, truD_bl, truD_int, truD_str, truD_tup, truD_lst, truD_lsk, ev_tup, ev_lst, ev_nwF, ev_nwM, ev_meth, ev_make, ev_fld, ev_setF, ev_bm1, asQ_tup, asQ_lst, asQ_lsk, asL_lst, asL_lsk, dLen_tup, dLen_lst, dLen_lsk, dLen_str, dIx_tup, dIx_lst, dIx_lsk, dIx_str, dAdd_int, dNeg_int, isN_def, notN_def, isNon_non, isNon_int, isNon_bl, isNon_str, isNon_tup, isNon_lst, isNon_obj, isNon_exc, dEq_int, dNe_int, dEq_str, dNe_str, dEq_bl, atI_zero, atI_one, atI_2, atI_3, atI_4, atI_5, atI_6, atI_7, atI_8, atI_9, atI_10, atI_11, atI_12, atI_m1, ev_gT, setAll_nil, setAll_cons, iOp_int, ev_gN, ev_ret, List.map_cons, List.map_nil, List.length_cons, List.length_nil, rep_zero, rep_succ, List.cons_append, List.nil_append, List.getElem?_cons_zero, List.getElem?_cons_succ, List.set_cons_zero, List.set_cons_succ, Nat.sub_self, Nat.reduceAdd, Nat.reduceSub, Option.map_some, Option.bind_some, if_true, Bool.not_true, Bool.not_false, Bool.false_eq_true, if_false, decide_true, decide_false, Int.reduceBEq, Int.reduceEq, Int.reduceLT, Int.reduceLE, Int.reduceNeg, Int.reduceAdd, Int.reduceSub, Int.reduceMul, Int.reduceToNat, Nat.reduceLT, Nat.reduceLeDiff, beq_self_eq_true, reduceIte, eq_self, Int.reduceNe, Int.reduceBNe, not_true_eq_false, not_false_eq_true, true_and, and_true, true_or, or_true, false_or, or_false, and_false, false_and, decide_eq_true_eq, Bool.true_and, Bool.and_true, Bool.false_and, Bool.and_false, Bool.true_or, Bool.or_true, Bool.false_or, Bool.or_false, e1]
  have q2 : (sFor (iKeysL (eFld 0 1 (eVar 1))) (gN 3) l_Book_take_1) [some bk, some (.obj i), some (.obj f), none] (s.set hh (.dicL (hsD hs))) = .fl (.nx [some bk, some (.obj i), some (.obj f), hv]) s' := by
    simp only [fnOf, ev_seq, ev_asg, sBnd_def, ev_op, ev_un, bnd_def, ev_call, evs_cons, evs_nil, ev_var, ev_c, ev_if, ev_next, ev_expr, ev_tru, ev_bl, ev_and, ev_or, ev_not, ev_yes, ev_andE, ev_orE, ev_notE, ev_ifE, ev_chain, ofB_some, ofO_some, ofO_none, truD_non, truD_bl, truD_int, truD_str, truD_tup, truD_lst, truD_lsk, ev_tup, ev_lst, ev_nwF, ev_nwM, ev_meth, ev_make, ev_fld, ev_setF, ev_bm1, asQ_tup, asQ_lst, asQ_lsk, asL_lst, asL_lsk, dLen_tup, dLen_lst, dLen_lsk, dLen_str, dIx_tup, dIx_lst, dIx_lsk, dIx_str, dAdd_int, dNeg_int, isN_def, notN_def, isNon_non, isNon_int, isNon_bl, isNon_str, isNon_tup, isNon_lst, isNon_obj, isNon_exc, dEq_int, dNe_int, dEq_str, dNe_str, dEq_bl, atI_zero, atI_one, atI_2, atI_3, atI_4, atI_5, atI_6, atI_7, atI_8, atI_9, atI_10, atI_11, atI_12, atI_m1, ev_gT, setAll_nil, setAll_cons, iOp_int, ev_gN, ev_ret, List.map_cons, List.map_nil, List.length_cons, List.length_nil, rep_zero, rep_succ, List.cons_append, List.nil_append, List.getElem?_cons_zero, List.getElem?_cons_succ, List.set_cons_zero, List.set_cons_succ, Nat.sub_self, Nat.reduceAdd, Nat.reduceSub, Option.map_some, Option.bind_some, if_true, Bool.not_true, Bool.not_false, Bool.false_eq_true, if_false, decide_true, decide_false, Int.reduceBEq, Int.reduceEq, Int.reduceLT, Int.reduceLE, Int.reduceNeg, Int.reduceAdd, Int.reduceSub, Int.reduceMul, Int.reduceToNat, Nat.reduceLT, Nat.reduceLeDiff, beq_self_eq_true, reduceIte, eq_self, Int.reduceNe, Int.reduceBNe, not_true_eq_false, not_false_eq_true, true_and, and_true, true_or, or_true, false_or, or_false, and_false, false_and, decide_eq_true_eq, Bool.true_and, Bool.and_true, Bool.false_and, Bool.and_false, Bool.true_or, Bool.or_true, Bool.false_or, Bool.or_false, ev_for, ev_keysL, e2, g3, keys_hs, h1]
  have q3 := slock_run q1 g2 rfl q2 (own2 h3).get
  refine ⟨_, ?_, own2 ((own2 h3).set (.dic (hsD hs)))⟩
  unfold m_Book_take b_Book_take u_Book_take_1
  simp only [fnOf, ev_seq, ev_asg, sBnd_def, ev_op, ev_un, bnd_def, ev_call, evs_cons, evs_nil, ev_var, ev_c, ev_if, ev_next, ev_expr, ev_tru, ev_bl, ev_and, ev_or, ev_not, ev_yes, ev_andE, ev_orE, ev_notE, ev_ifE, ev_chain, ofB_some, ofO_some, ofO_none, truD_non, truD_bl, truD_int, truD_str, truD_tup, truD_lst, truD_lsk, ev_tup, ev_lst, ev_nwF, ev_nwM, ev_meth, ev_make, ev_fld, ev_setF, ev_bm1, asQ_tup, asQ_lst, asQ_lsk, asL_lst, asL_lsk, dLen_tup, dLen_lst, dLen_lsk, dLen_str, dIx_tup, dIx_lst, dIx_lsk, dIx_str, dAdd_int, dNeg_int, isN_def, notN_def, isNon_non, isNon_int, isNon_bl, isNon_str, isNon_tup, isNon_lst, isNon_obj, isNon_exc, dEq_int, dNe_int, dEq_str, dNe_str, dEq_bl, atI_zero, atI_one, atI_2, atI_3, atI_4, atI_5, atI_6, atI_7, atI_8, atI_9, atI_10, atI_11, atI_12, atI_m1, ev_gT, setAll_nil, setAll_cons, iOp_int, ev_gN, ev_ret, List.map_cons, List.map_nil, List.length_cons, List.length_nil, rep_zero, rep_succ, List.cons_append, List.nil_append, List.getElem?_cons_zero, List.getElem?_cons_succ, List.set_cons_zero, List.set_cons_succ, Nat.sub_self, Nat.reduceAdd, Nat.reduceSub, Option.map_some, Option.bind_some, if_true, Bool.not_true, Bool.not_false, Bool.false_eq_true, if_false, decide_true, decide_false, Int.reduceBEq, Int.reduceEq, Int.reduceLT, Int.reduceLE, Int.reduceNeg, Int.reduceAdd, Int.reduceSub, Int.reduceMul, Int.reduceToNat, Nat.reduceLT, Nat.reduceLeDiff, beq_self_eq_true, reduceIte, eq_self, Int.reduceNe, Int.reduceBNe, not_true_eq_false, not_false_eq_true, true_and, and_true, true_or, or_true, false_or, or_false, and_false, false_and, decide_eq_true_eq, Bool.true_and, Bool.and_true, Bool.false_and, Bool.and_false, Bool.true_or, Bool.or_true, Bool.false_or, Bool.or_false, q3]
section
variable {T : Tri} {tp N : Nat} {R : List SP} {s : Sto}
theorem take_tri {bk : Dt} {f : Nat} {p : Pth} {x : Nd} {m : Gr} (c : Con T tp N) (h : valA T p = some x) (hl : m.length + x.hs.length < 900000) (o : Own (At f (.dic (hsD m)) :: (triS T ++ R)) s) :
    ∃ s', m_Book_take [bk, .obj x.i, .obj f] s = .ok .non s' ∧ Own (At f (.dic (hsD (gat m x.hs))) :: (triS T ++ R)) s' := by
  obtain ⟨K, k1, _⟩ := tri_at c.nd h
  have o1 : Own (At f (.dic (hsD m)) :: At x.i (.ins 0 [.obj x.b, .obj x.h]) :: At x.b (.dic (chD x.ch)) :: At x.h (.dic (hsD x.hs)) :: (K ++ R)) s := o.perm (List.Perm.cons _ (k1.append_right R))
  have o2 : Own (At x.i (.ins 0 [.obj x.b, .obj x.h]) :: At x.h (.dic (hsD x.hs)) :: At f (.dic (hsD m)) :: At x.b (.dic (chD x.ch)) :: (K ++ R)) s := o1.ix [1, 3, 0, 2]
  obtain ⟨s', h1, h2⟩ := ev_take (bk := bk) (c.hn p x h) hl o2
  refine ⟨s', h1, ?_⟩
  have o3 : Own (At f (.dic (hsD (gat m x.hs))) :: At x.i (.ins 0 [.obj x.b, .obj x.h]) :: At x.b (.dic (chD x.ch)) :: At x.h (.dic (hsD x.hs)) :: (K ++ R)) s' := h2.ix [2, 0, 3, 1]
  exact o3.perm (List.Perm.cons _ (k1.symm.append_right R))
theorem take_opt {bk : Dt} {f : Nat} {q : Pth} {m : Gr} (c : Con T tp N) (hl : m.length + (hsAt T q).length < 900000) (o : Own (At f (.dic (hsD m)) :: (triS T ++ R)) s) :
    ∃ s', m_Book_take [bk, ((valA T q).map fun y => Dt.obj y.i).getD .non, .obj f] s = .ok .non s' ∧ Own (At f (.dic (hsD (gat m (hsAt T q)))) :: (triS T ++ R)) s' := by
  cases hv : valA T q with
  | none =>
    refine ⟨s, ?_, ?_⟩
    · unfold m_Book_take b_Book_take u_Book_take_1
      simp only [fnOf, ev_seq, ev_asg, sBnd_def, ev_op, ev_un, bnd_def, ev_call, evs_cons, evs_nil, ev_var, ev_c, ev_if, ev_next, ev_expr, ev_tru, ev_bl, ev_and, ev_or, ev_not, ev_yes, ev_andE, ev_orE, ev_notE, ev_ifE, ev_chain, ofB_some, ofO_some, ofO_none, truD_non, truD_bl, truD_int, truD_str, truD_tup, truD_lst, truD_lsk, ev_tup, ev_lst, ev_nwF, ev_nwM, ev_meth, ev_make, ev_fld, ev_setF, ev_bm1, asQ_tup, asQ_lst, asQ_lsk, asL_lst, asL_lsk, dLen_tup, dLen_lst, dLen_lsk, dLen_str, dIx_tup, dIx_lst, dIx_lsk, dIx_str, dAdd_int, dNeg_int, isN_def, notN_def, isNon_non, isNon_int, isNon_bl, isNon_str, isNon_tup, isNon_lst, isNon_obj, isNon_exc, dEq_int, dNe_int, dEq_str, dNe_str, dEq_bl, atI_zero, atI_one, atI_2, atI_3, atI_4, atI_5, atI_6, atI_7, atI_8, atI_9, atI_10, atI_11, atI_12, atI_m1, ev_gT, setAll_nil, setAll_cons, iOp_int, ev_gN, ev_ret, List.map_cons, List.map_nil, List.length_cons, List.length_nil, rep_zero, rep_succ, List.cons_append, List.nil_append, List.getElem?_cons_zero, List.getElem?_cons_succ, List.set_cons_zero, List.set_cons_succ, Nat.sub_self, Nat.reduceAdd, Nat.reduceSub, Option.map_some, Option.bind_some, if_true, Bool.not_true, Bool.not_false, Bool.false_eq_true, if_false, decide_true, decide_false, Int.reduceBEq, Int.reduceEq, Int.reduceLT, Int.reduceLE, Int.reduceNeg, Int.reduceAdd, Int.reduceSub, Int.reduceMul, Int.reduceToNat, Nat.reduceLT, Nat.reduceLeDiff, beq_self_eq_true, reduceIte, eq_self, Int.reduceNe, Int.reduceBNe, not_true_eq_false, not_false_eq_true, true_and, and_true, true_or, or_true, false_or, or_false, and_false, false_and, decide_eq_true_eq, Bool.true_and, Bool.and_true, Bool.false_and, Bool.and_false, Bool.true_or, Bool.or_true, Bool.false_or, Bool.or_false, Option.map_none, Option.getD_none]
    · unfold hsAt
      rw [hv]
      exact o
  | some y =>
    have e : hsAt T q = y.hs := by unfold hsAt; rw [hv]; rfl
    rw [e] at hl ⊢
    exact take_tri c hv hl o
theorem map_non (o : Option Nat) : (o.map Dt.obj).getD .non = (o.map Dt.obj).getD .non := rfl
theorem ev_collect {bk f : Nat} {bfs : List Dt} (c : Con T tp N) : ∀ (n : Nat) (ls p : Pth) (first : Bool) (x : Nd) (m : Gr) (s : Sto), valA T p = some x → ls.length < n → (first = true → ls ≠ []) → m.length + (col T ls p first).length < 900000 →
    Own (At f (.dic (hsD m)) :: (triS T ++ (At bk (.ins 1 bfs) :: R))) s → ∃ s', r_Book_collect n [.obj bk, .obj x.i, .lst (lvs ls), .bl first, .obj f] s = .ok .non s' ∧ Own (At f (.dic (hsD (gat m (col T ls p first)))) :: (triS T ++ (At bk (.ins 1 bfs) :: R))) s'
  | 0, ls, p, first, x, m, s, _, h, _, _, _ => absurd h (Nat.not_lt_zero _)
  | n + 1, ls, p, first, x, m, s, hx, hn, hf, hl, o => by
    have bkI : ∀ {s : Sto} {m : Gr}, Own (At f (.dic (hsD m)) :: (triS T ++ (At bk (.ins 1 bfs) :: R))) s → insD s 1 (.obj bk) = some (bk, bfs) := fun o => insD_obj (o.drop.perm List.perm_middle).get
    have ndG : ∀ {s : Sto} {m : Gr}, Own (At f (.dic (hsD m)) :: (triS T ++ (At bk (.ins 1 bfs) :: R))) s → insD s 0 (.obj x.i) = some (x.i, [.obj x.b, .obj x.h]) ∧ isDic s (.obj x.b) = true ∧ ∀ l, dgetD s (.obj x.b) (.str (mkS l)) = some (((valA T (p ++ [l])).map (·.i)).map Dt.obj) := fun o => by
      obtain ⟨g1, g2, g3⟩ := tri_get c.nd hx o.drop
      refine ⟨insD_obj g1, isDic_dic g2, fun l => ?_⟩
      rw [dg_txt g2, c.step p x hx l]
    -- a step below
    have sub : ∀ (l : List Nat) (r : Pth) (m : Gr) (s : Sto), r.length < n → m.length + (if (valA T (p ++ [l])).isSome = true then col T r (p ++ [l]) false else []).length < 900000 → Own (At f (.dic (hsD m)) :: (triS T ++ (At bk (.ins 1 bfs) :: R))) s →
        ∃ s', Own (At f (.dic (hsD (gat m (if (valA T (p ++ [l])).isSome = true then col T r (p ++ [l]) false else [])))) :: (triS T ++ (At bk (.ins 1 bfs) :: R))) s' ∧
          ((valA T (p ++ [l]) = none ∧ s' = s) ∨ ∃ y, valA T (p ++ [l]) = some y ∧ r_Book_collect n [.obj bk, .obj y.i, .lst (lvs r), .bl false, .obj f] s = .ok .non s') := fun l r m s hr hl o => by
      cases hv : valA T (p ++ [l]) with
      | none => exact ⟨s, o, .inl ⟨rfl, rfl⟩⟩
      | some y =>
        rw [hv] at hl
        obtain ⟨s', h1, h2⟩ := ev_collect c n r (p ++ [l]) false y m s hv hr (fun z => nomatch z) hl o
        exact ⟨s', h2, .inr ⟨y, rfl, h1⟩⟩
    cases ls with
    | nil =>
      have hf' : first = false := by
        cases first with
        | false => rfl
        | true => exact absurd rfl (hf rfl)
      subst hf'
      rw [col, List.length_append] at hl
      obtain ⟨s1, h1, o1⟩ := take_opt (bk := .obj bk) (q := p ++ [[35]]) c (by omega) o
      have hgl := gat_len (hsAt T (p ++ [[35]])) m
      have ex : hsAt T p = x.hs := by unfold hsAt; rw [hx]; rfl
      rw [ex] at hl
      obtain ⟨s2, h2, o2⟩ := take_tri (bk := .obj bk) c hx (by omega) o1
      refine ⟨s2, ?_, by rw [col, gat_app, ex]; exact o2⟩
      obtain ⟨a1, a2, a3⟩ := ndG o
      have a4 := a3 [35]
      have b1 := bkI o
      have b2 := bkI o1
      have em : (((valA T (p ++ [[35]])).map (·.i)).map Dt.obj).getD .non = ((valA T (p ++ [[35]])).map fun y => Dt.obj y.i).getD .non := by cases valA T (p ++ [[35]]) <;> rfl
      unfold r_Book_collect b_Book_collect u_Book_collect_1 u_Book_collect_2
      simp only [fnOf, ev_seq, ev_asg, sBnd_def, ev_op, ev_un, bnd_def, ev_call, evs_cons, evs_nil, ev_var, ev_c, ev_if, ev_next, ev_expr, ev_tru, ev_bl, ev_and, ev_or, ev_not, ev_yes, ev_andE, ev_orE, ev_notE, ev_ifE, ev_chain, ofB_some, ofO_some, ofO_none, truD_non, truD_bl, truD_int, truD_str, truD_tup, truD_lst, truD_lsk, ev_tup, ev_lst, ev_nwF, ev_nwM, ev_meth, ev_make, ev_fld, ev_setF, ev_bm1, asQ_tup, asQ_lst, asQ_lsk, asL_lst, asL_lsk, dLen_tup, dLen_lst, dLen_lsk, dLen_str, dIx_tup, dIx_lst, dIx_lsk, dIx_str, dAdd_int, dNeg_int, isN_def, notN_def, isNon_non, isNon_int, isNon_bl, isNon_str, isNon_tup, isNon_lst, isNon_obj, isNon_exc, dEq_int, dNe_int, dEq_str, dNe_str, dEq_bl, atI_zero, atI_one, atI_2, atI_3, atI_4, atI_5, atI_6, atI_7, atI_8, atI_9, atI_10, atI_11, atI_12, atI_m1, ev_gT, setAll_nil, setAll_cons, iOp_int, ev_gN, ev_ret, List.map_cons, List.map_nil, List.length_cons, List.length_nil, rep_zero, rep_succ, List.cons_append, List.nil_append, List.getElem?_cons_zero, List.getElem?_cons_succ, List.set_cons_zero, List.set_cons_succ, Nat.sub_self, Nat.reduceAdd, Nat.reduceSub, Option.map_some, Option.bind_some, if_true, Bool.not_true, Bool.not_false, Bool.false_eq_true, if_false, decide_true, decide_false, Int.reduceBEq, Int.reduceEq, Int.reduceLT, Int.reduceLE, Int.reduceNeg, Int.reduceAdd, Int.reduceSub, Int.reduceMul, Int.reduceToNat, Nat.reduceLT, Nat.reduceLeDiff, beq_self_eq_true, reduceIte, eq_self, Int.reduceNe, Int.reduceBNe, not_true_eq_false, not_false_eq_true, true_and, and_true, true_or, or_true, false_or, or_false, and_false, false_and, decide_eq_true_eq, Bool.true_and, Bool.and_true, Bool.false_and, Bool.and_false, Bool.true_or, Bool.or_true, Bool.false_or, Bool.or_false, b1, ev_dget2, a1, a2, t_hash, a4, em, h1, List.isEmpty_nil, b2, h2]
    | cons q r =>
      have hr : r.length < n := by simpa using hn
      have c2 : cutD (Dt.str (mkS q) :: lvs r) (some 1) none = lvs r := cut_tail _ _
      have hd : ∀ s, dStarts (.str (mkS q)) (.str (mkS [36])) s = .ok (.bl (TL.pre [36] q)) s := fun _ => rfl
      rw [col] at hl ⊢
      rw [List.length_append] at hl
      -- the first part
      have part1 : ∃ s1, u_Book_collect_1 (r_Book_collect n) [some (.obj bk), some (.obj x.i), some (.lst (lvs (q :: r))), some (.bl first), some (.obj f)] s = .fl (.nx [some (.obj bk), some (.obj x.i), some (.lst (lvs (q :: r))), some (.bl first), some (.obj f)]) s1 ∧
          Own (At f (.dic (hsD (gat m (if (first && TL.pre [36] q) = true then [] else hsAt T (p ++ [[35]]) ++ (if (valA T (p ++ [[43]])).isSome = true then col T r (p ++ [[43]]) false else []))))) :: (triS T ++ (At bk (.ins 1 bfs) :: R))) s1 := by
        cases hfp : (first && TL.pre [36] q) with
        | true =>
          rw [if_pos rfl]
          refine ⟨s, ?_, o⟩
          simp only [Bool.and_eq_true] at hfp
          unfold u_Book_collect_1
          simp only [fnOf, ev_seq, ev_asg, sBnd_def, ev_op, ev_un, bnd_def, ev_call, evs_cons, evs_nil, ev_var, ev_c, ev_if, ev_next, ev_expr, ev_tru, ev_bl, ev_and, ev_or, ev_not, ev_yes, ev_andE, ev_orE, ev_notE, ev_ifE, ev_chain, ofB_some, ofO_some, ofO_none, truD_non, truD_bl, truD_int, truD_str, truD_tup, truD_lst, truD_lsk, ev_tup, ev_lst, ev_nwF, ev_nwM, ev_meth, ev_make, ev_fld, ev_setF, ev_bm1, asQ_tup, asQ_lst, asQ_lsk, asL_lst, asL_lsk, dLen_tup, dLen_lst, dLen_lsk, dLen_str, dIx_tup, dIx_lst, dIx_lsk, dIx_str, dAdd_int, dNeg_int, isN_def, notN_def, isNon_non, isNon_int, isNon_bl, isNon_str, isNon_tup, isNon_lst, isNon_obj, isNon_exc, dEq_int, dNe_int, dEq_str, dNe_str, dEq_bl, atI_zero, atI_one, atI_2, atI_3, atI_4, atI_5, atI_6, atI_7, atI_8, atI_9, atI_10, atI_11, atI_12, atI_m1, ev_gT, setAll_nil, setAll_cons, iOp_int, ev_gN, ev_ret, List.map_cons, List.map_nil, List.length_cons, List.length_nil, rep_zero, rep_succ, List.cons_append, List.nil_append, List.getElem?_cons_zero, List.getElem?_cons_succ, List.set_cons_zero, List.set_cons_succ, Nat.sub_self, Nat.reduceAdd, Nat.reduceSub, Option.map_some, Option.bind_some, if_true, Bool.not_true, Bool.not_false, Bool.false_eq_true, if_false, decide_true, decide_false, Int.reduceBEq, Int.reduceEq, Int.reduceLT, Int.reduceLE, Int.reduceNeg, Int.reduceAdd, Int.reduceSub, Int.reduceMul, Int.reduceToNat, Nat.reduceLT, Nat.reduceLeDiff, beq_self_eq_true, reduceIte, eq_self, Int.reduceNe, Int.reduceBNe, not_true_eq_false, not_false_eq_true, true_and, and_true, true_or, or_true, false_or, or_false, and_false, false_and, decide_eq_true_eq, Bool.true_and, Bool.and_true, Bool.false_and, Bool.and_false, Bool.true_or, Bool.or_true, Bool.false_or, Bool.or_false, hfp.1, isStr_str, t_dollar, hd, hfp.2]
        | false =>
          rw [hfp, if_neg Bool.false_ne_true, List.length_append] at hl
          rw [if_neg Bool.false_ne_true]
          obtain ⟨s1, h1, o1⟩ := take_opt (bk := .obj bk) (q := p ++ [[35]]) c (by omega) o
          have hgl := gat_len (hsAt T (p ++ [[35]])) m
          obtain ⟨s2, o2, h2⟩ := sub [43] r _ s1 hr (by omega) o1
          refine ⟨s2, ?_, by rw [gat_app]; exact o2⟩
          obtain ⟨a1, a2, a3⟩ := ndG o
          have a4 := a3 [35]
          obtain ⟨d1, d2, d3⟩ := ndG o1
          have d4 := d3 [43]
          have b1 := bkI o
          have b2 := bkI o1
          have em : (((valA T (p ++ [[35]])).map (·.i)).map Dt.obj).getD .non = ((valA T (p ++ [[35]])).map fun y => Dt.obj y.i).getD .non := by cases valA T (p ++ [[35]]) <;> rfl
          have test : (tNot (tAnd (tTru (eVar 3)) (tTru (eBm1 isStr dStarts (eOp dIx (eVar 2) (eC (.int 0))) (eC (.str (mkS [36]))))))) [some (.obj bk), some (.obj x.i), some (.lst (lvs (q :: r))), some (.bl first), some (.obj f)] s = .ok true s := by
            cases first with
            | false => simp only [fnOf, ev_seq, ev_asg, sBnd_def, ev_op, ev_un, bnd_def, ev_call, evs_cons, evs_nil, ev_var, ev_c, ev_if, ev_next, ev_expr, ev_tru, ev_bl, ev_and, ev_or, ev_not, ev_yes, ev_andE, ev_orE, ev_notE, ev_ifE, ev_chain, ofB_some, ofO_some, ofO_none, truD_non, truD_bl, truD_int, truD_str, truD_tup, truD_lst, truD_lsk, ev_tup, ev_lst, ev_nwF, ev_nwM, ev_meth, ev_make, ev_fld, ev_setF, ev_bm1, asQ_tup, asQ_lst, asQ_lsk, asL_lst, asL_lsk, dLen_tup, dLen_lst, dLen_lsk, dLen_str, dIx_tup, dIx_lst, dIx_lsk, dIx_str, dAdd_int, dNeg_int, isN_def, notN_def, isNon_non, isNon_int, isNon_bl, isNon_str, isNon_tup, isNon_lst, isNon_obj, isNon_exc, dEq_int, dNe_int, dEq_str, dNe_str, dEq_bl, atI_zero, atI_one, atI_2, atI_3, atI_4, atI_5, atI_6, atI_7, atI_8, atI_9, atI_10, atI_11, atI_12, atI_m1, ev_gT, setAll_nil, setAll_cons, iOp_int, ev_gN, ev_ret, List.map_cons, List.map_nil, List.length_cons, List.length_nil, rep_zero, rep_succ, List.cons_append, List.nil_append, List.getElem?_cons_zero, List.getElem?_cons_succ, List.set_cons_zero, List.set_cons_succ, Nat.sub_self, Nat.reduceAdd, Nat.reduceSub, Option.map_some, Option.bind_some, if_true, Bool.not_true, Bool.not_false, Bool.false_eq_true, if_false, decide_true, decide_false, Int.reduceBEq, Int.reduceEq, Int.reduceLT, Int.reduceLE, Int.reduceNeg, Int.reduceAdd, Int.reduceSub, Int.reduceMul, Int.reduceToNat, Nat.reduceLT, Nat.reduceLeDiff, beq_self_eq_true, reduceIte, eq_self, Int.reduceNe, Int.reduceBNe, not_true_eq_false, not_false_eq_true, true_and, and_true, true_or, or_true, false_or, or_false, and_false, false_and, decide_eq_true_eq, Bool.true_and, Bool.and_true, Bool.false_and, Bool.and_false, Bool.true_or, Bool.or_true, Bool.false_or, Bool.or_false]
            | true =>
              rw [Bool.true_and] at hfp
              simp only [fnOf, ev_seq, ev_asg, sBnd_def, ev_op, ev_un, bnd_def, ev_call, evs_cons, evs_nil, ev_var, ev_c, ev_if, ev_next, ev_expr, ev_tru, ev_bl, ev_and, ev_or, ev_not, ev_yes, ev_andE, ev_orE, ev_notE, ev_ifE, ev_chain, ofB_some, ofO_some, ofO_none, truD_non, truD_bl, truD_int, truD_str, truD_tup, truD_lst, truD_lsk, ev_tup, ev_lst, ev_nwF, ev_nwM, ev_meth, ev_make, ev_fld, ev_setF, ev_bm1, asQ_tup, asQ_lst, asQ_lsk, asL_lst, asL_lsk, dLen_tup, dLen_lst, dLen_lsk, dLen_str, dIx_tup, dIx_lst, dIx_lsk, dIx_str, dAdd_int, dNeg_int, isN_def, notN_def, isNon_non, isNon_int, isNon_bl, isNon_str, isNon_tup, isNon_lst, isNon_obj, isNon_exc, dEq_int, dNe_int, dEq_str, dNe_str, dEq_bl, atI_zero, atI_one, atI_2, atI_3, atI_4, atI_5, atI_6, atI_7, atI_8, atI_9, atI_10, atI_11, atI_12, atI_m1, ev_gT, setAll_nil, setAll_cons, iOp_int, ev_gN, ev_ret, List.map_cons, List.map_nil, List.length_cons, List.length_nil, rep_zero, rep_succ, List.cons_append, List.nil_append, List.getElem?_cons_zero, List.getElem?_cons_succ, List.set_cons_zero, List.set_cons_succ, Nat.sub_self, Nat.reduceAdd, Nat.reduceSub, Option.map_some, Option.bind_some, if_true, Bool.not_true, Bool.not_false, Bool.false_eq_true, if_false, decide_true, decide_false, Int.reduceBEq, Int.reduceEq, Int.reduceLT, Int.reduceLE, Int.reduceNeg, Int.reduceAdd, Int.reduceSub, Int.reduceMul, Int.reduceToNat, Nat.reduceLT, Nat.reduceLeDiff, beq_self_eq_true, reduceIte, eq_self, Int.reduceNe, Int.reduceBNe, not_true_eq_false, not_false_eq_true, true_and, and_true, true_or, or_true, false_or, or_false, and_false, false_and, decide_eq_true_eq, Bool.true_and, Bool.and_true, Bool.false_and, Bool.and_false, Bool.true_or, Bool.or_true, Bool.false_or, Bool.or_false, isStr_str, hd, hfp]
          unfold u_Book_collect_1
          rw [t_dollar, t_hash, t_plus]
          rw [ev_if, sBnd_def, test]
          rcases h2 with ⟨k1, k2⟩ | ⟨y, k1, k2⟩
          · subst k2
            rw [k1] at d4
            simp only [fnOf, ev_seq, ev_asg, sBnd_def, ev_op, ev_un, bnd_def, ev_call, evs_cons, evs_nil, ev_var, ev_c, ev_if, ev_next, ev_expr, ev_tru, ev_bl, ev_and, ev_or, ev_not, ev_yes, ev_andE, ev_orE, ev_notE, ev_ifE, ev_chain, ofB_some, ofO_some, ofO_none, truD_non, truD_bl, truD_int, truD_str, truD_tup, truD_lst, truD_lsk, ev_tup, ev_lst, ev_nwF, ev_nwM, ev_meth, ev_make, ev_fld, ev_setF, ev_bm1, asQ_tup, asQ_lst, asQ_lsk, asL_lst, asL_lsk, dLen_tup, dLen_lst, dLen_lsk, dLen_str, dIx_tup, dIx_lst, dIx_lsk, dIx_str, dAdd_int, dNeg_int, isN_def, notN_def, isNon_non, isNon_int, isNon_bl, isNon_str, isNon_tup, isNon_lst, isNon_obj, isNon_exc, dEq_int, dNe_int, dEq_str, dNe_str, dEq_bl, atI_zero, atI_one, atI_2, atI_3, atI_4, atI_5, atI_6, atI_7, atI_8, atI_9, atI_10, atI_11, atI_12, atI_m1, ev_gT, setAll_nil, setAll_cons, iOp_int, ev_gN, ev_ret, List.map_cons, List.map_nil, List.length_cons, List.length_nil, rep_zero, rep_succ, List.cons_append, List.nil_append, List.getElem?_cons_zero, List.getElem?_cons_succ, List.set_cons_zero, List.set_cons_succ, Nat.sub_self, Nat.reduceAdd, Nat.reduceSub, Option.map_some, Option.bind_some, if_true, Bool.not_true, Bool.not_false, Bool.false_eq_true, if_false, decide_true, decide_false, Int.reduceBEq, Int.reduceEq, Int.reduceLT, Int.reduceLE, Int.reduceNeg, Int.reduceAdd, Int.reduceSub, Int.reduceMul, Int.reduceToNat, Nat.reduceLT, Nat.reduceLeDiff, beq_self_eq_true, reduceIte, eq_self, Int.reduceNe, Int.reduceBNe, not_true_eq_false, not_false_eq_true, true_and, and_true, true_or, or_true, false_or, or_false, and_false, false_and, decide_eq_true_eq, Bool.true_and, Bool.and_true, Bool.false_and, Bool.and_false, Bool.true_or, Bool.or_true, Bool.false_or, Bool.or_false, b1, ev_dget2, a1, a2, a4, em, h1, List.isEmpty_cons, d1, dDin, d4, Option.map_none, Option.isSome_none]
          · rw [k1] at d4
            simp only [fnOf, ev_seq, ev_asg, sBnd_def, ev_op, ev_un, bnd_def, ev_call, evs_cons, evs_nil, ev_var, ev_c, ev_if, ev_next, ev_expr, ev_tru, ev_bl, ev_and, ev_or, ev_not, ev_yes, ev_andE, ev_orE, ev_notE, ev_ifE, ev_chain, ofB_some, ofO_some, ofO_none, truD_non, truD_bl, truD_int, truD_str, truD_tup, truD_lst, truD_lsk, ev_tup, ev_lst, ev_nwF, ev_nwM, ev_meth, ev_make, ev_fld, ev_setF, ev_bm1, asQ_tup, asQ_lst, asQ_lsk, asL_lst, asL_lsk, dLen_tup, dLen_lst, dLen_lsk, dLen_str, dIx_tup, dIx_lst, dIx_lsk, dIx_str, dAdd_int, dNeg_int, isN_def, notN_def, isNon_non, isNon_int, isNon_bl, isNon_str, isNon_tup, isNon_lst, isNon_obj, isNon_exc, dEq_int, dNe_int, dEq_str, dNe_str, dEq_bl, atI_zero, atI_one, atI_2, atI_3, atI_4, atI_5, atI_6, atI_7, atI_8, atI_9, atI_10, atI_11, atI_12, atI_m1, ev_gT, setAll_nil, setAll_cons, iOp_int, ev_gN, ev_ret, List.map_cons, List.map_nil, List.length_cons, List.length_nil, rep_zero, rep_succ, List.cons_append, List.nil_append, List.getElem?_cons_zero, List.getElem?_cons_succ, List.set_cons_zero, List.set_cons_succ, Nat.sub_self, Nat.reduceAdd, Nat.reduceSub, Option.map_some, Option.bind_some, if_true, Bool.not_true, Bool.not_false, Bool.false_eq_true, if_false, decide_true, decide_false, Int.reduceBEq, Int.reduceEq, Int.reduceLT, Int.reduceLE, Int.reduceNeg, Int.reduceAdd, Int.reduceSub, Int.reduceMul, Int.reduceToNat, Nat.reduceLT, Nat.reduceLeDiff, beq_self_eq_true, reduceIte, eq_self, Int.reduceNe, Int.reduceBNe, not_true_eq_false, not_false_eq_true, true_and, and_true, true_or, or_true, false_or, or_false, and_false, false_and, decide_eq_true_eq, Bool.true_and, Bool.and_true, Bool.false_and, Bool.and_false, Bool.true_or, Bool.or_true, Bool.false_or, Bool.or_false, b1, ev_dget2, a1, a2, a4, em, h1, List.isEmpty_cons, d1, dDin, dDget, d4, Option.isSome_some, b2, ev_sl, evp_some, evp_none, dSl_lst, c2, k2]
      obtain ⟨s1, h1, o1⟩ := part1
      have hgl := gat_len (if (first && TL.pre [36] q) = true then [] else hsAt T (p ++ [[35]]) ++ (if (valA T (p ++ [[43]])).isSome = true then col T r (p ++ [[43]]) false else [])) m
      obtain ⟨s2, o2, h2⟩ := sub q r _ s1 hr (by omega) o1
      refine ⟨s2, ?_, by rw [gat_app]; exact o2⟩
      obtain ⟨d1, d2, d3⟩ := ndG o1
      have d4 := d3 q
      have b2 := bkI o1
      unfold r_Book_collect b_Book_collect
      rw [fnOf]
      rcases h2 with ⟨k1, k2⟩ | ⟨y, k1, k2⟩
      · subst k2
        rw [k1] at d4
        unfold u_Book_collect_2
        simp only [fnOf, ev_seq, ev_asg, sBnd_def, ev_op, ev_un, bnd_def, ev_call, evs_cons, evs_nil, ev_var, ev_c, ev_if, ev_next, ev_expr, ev_tru, ev_bl, ev_and, ev_or, ev_not, ev_yes, ev_andE, ev_orE, ev_notE, ev_ifE, ev_chain, ofB_some, ofO_some, ofO_none, truD_non, truD_bl, truD_int, truD_str, truD_tup, truD_lst, truD_lsk, ev_tup, ev_lst, ev_nwF, ev_nwM, ev_meth, ev_make, ev_fld, ev_setF, ev_bm1, asQ_tup, asQ_lst, asQ_lsk, asL_lst, asL_lsk, dLen_tup, dLen_lst, dLen_lsk, dLen_str, dIx_tup, dIx_lst, dIx_lsk, dIx_str, dAdd_int, dNeg_int, isN_def, notN_def, isNon_non, isNon_int, isNon_bl, isNon_str, isNon_tup, isNon_lst, isNon_obj, isNon_exc, dEq_int, dNe_int, dEq_str, dNe_str, dEq_bl, atI_zero, atI_one, atI_2, atI_3, atI_4, atI_5, atI_6, atI_7, atI_8, atI_9, atI_10, atI_11, atI_12, atI_m1, ev_gT, setAll_nil, setAll_cons, iOp_int, ev_gN, ev_ret, List.map_cons, List.map_nil, List.length_cons, List.length_nil, rep_zero, rep_succ, List.cons_append, List.nil_append, List.getElem?_cons_zero, List.getElem?_cons_succ, List.set_cons_zero, List.set_cons_succ, Nat.sub_self, Nat.reduceAdd, Nat.reduceSub, Option.map_some, Option.bind_some, if_true, Bool.not_true, Bool.not_false, Bool.false_eq_true, if_false, decide_true, decide_false, Int.reduceBEq, Int.reduceEq, Int.reduceLT, Int.reduceLE, Int.reduceNeg, Int.reduceAdd, Int.reduceSub, Int.reduceMul, Int.reduceToNat, Nat.reduceLT, Nat.reduceLeDiff, beq_self_eq_true, reduceIte, eq_self, Int.reduceNe, Int.reduceBNe, not_true_eq_false, not_false_eq_true, true_and, and_true, true_or, or_true, false_or, or_false, and_false, false_and, decide_eq_true_eq, Bool.true_and, Bool.and_true, Bool.false_and, Bool.and_false, Bool.true_or, Bool.or_true, Bool.false_or, Bool.or_false, List.isEmpty_cons, d1, dDin, d4, Option.map_none, Option.isSome_none] at h1
        simp only [fnOf, ev_seq, ev_asg, sBnd_def, ev_op, ev_un, bnd_def, ev_call, evs_cons, evs_nil, ev_var, ev_c, ev_if, ev_next, ev_expr, ev_tru, ev_bl, ev_and, ev_or, ev_not, ev_yes, ev_andE, ev_orE, ev_notE, ev_ifE, ev_chain, ofB_some, ofO_some, ofO_none, truD_non, truD_bl, truD_int, truD_str, truD_tup, truD_lst, truD_lsk, ev_tup, ev_lst, ev_nwF, ev_nwM, ev_meth, ev_make, ev_fld, ev_setF, ev_bm1, asQ_tup, asQ_lst, asQ_lsk, asL_lst, asL_lsk, dLen_tup, dLen_lst, dLen_lsk, dLen_str, dIx_tup, dIx_lst, dIx_lsk, dIx_str, dAdd_int, dNeg_int, isN_def, notN_def, isNon_non, isNon_int, isNon_bl, isNon_str, isNon_tup, isNon_lst, isNon_obj, isNon_exc, dEq_int, dNe_int, dEq_str, dNe_str, dEq_bl, atI_zero, atI_one, atI_2, atI_3, atI_4, atI_5, atI_6, atI_7, atI_8, atI_9, atI_10, atI_11, atI_12, atI_m1, ev_gT, setAll_nil, setAll_cons, iOp_int, ev_gN, ev_ret, List.map_cons, List.map_nil, List.length_cons, List.length_nil, rep_zero, rep_succ, List.cons_append, List.nil_append, List.getElem?_cons_zero, List.getElem?_cons_succ, List.set_cons_zero, List.set_cons_succ, Nat.sub_self, Nat.reduceAdd, Nat.reduceSub, Option.map_some, Option.bind_some, if_true, Bool.not_true, Bool.not_false, Bool.false_eq_true, if_false, decide_true, decide_false, Int.reduceBEq, Int.reduceEq, Int.reduceLT, Int.reduceLE, Int.reduceNeg, Int.reduceAdd, Int.reduceSub, Int.reduceMul, Int.reduceToNat, Nat.reduceLT, Nat.reduceLeDiff, beq_self_eq_true, reduceIte, eq_self, Int.reduceNe, Int.reduceBNe, not_true_eq_false, not_false_eq_true, true_and, and_true, true_or, or_true, false_or, or_false, and_false, false_and, decide_eq_true_eq, Bool.true_and, Bool.and_true, Bool.false_and, Bool.and_false, Bool.true_or, Bool.or_true, Bool.false_or, Bool.or_false, h1, List.isEmpty_cons, d1, dDin, d4, Option.map_none, Option.isSome_none]
      · rw [k1] at d4
        unfold u_Book_collect_2
        simp only [fnOf, ev_seq, ev_asg, sBnd_def, ev_op, ev_un, bnd_def, ev_call, evs_cons, evs_nil, ev_var, ev_c, ev_if, ev_next, ev_expr, ev_tru, ev_bl, ev_and, ev_or, ev_not, ev_yes, ev_andE, ev_orE, ev_notE, ev_ifE, ev_chain, ofB_some, ofO_some, ofO_none, truD_non, truD_bl, truD_int, truD_str, truD_tup, truD_lst, truD_lsk, ev_tup, ev_lst, ev_nwF, ev_nwM, ev_meth, ev_make, ev_fld, ev_setF, ev_bm1, asQ_tup, asQ_lst, asQ_lsk, asL_lst, asL_lsk, dLen_tup, dLen_lst, dLen_lsk, dLen_str, dIx_tup, dIx_lst, dIx_lsk, dIx_str, dAdd_int, dNeg_int, isN_def, notN_def, isNon_non, isNon_int, isNon_bl, isNon_str, isNon_tup, isNon_lst, isNon_obj, isNon_exc, dEq_int, dNe_int, dEq_str, dNe_str, dEq_bl, atI_zero, atI_one, atI_2, atI_3, atI_4, atI_5, atI_6, atI_7, atI_8, atI_9, atI_10, atI_11, atI_12, atI_m1, ev_gT, setAll_nil, setAll_cons, iOp_int, ev_gN, ev_ret, List.map_cons, List.map_nil, List.length_cons, List.length_nil, rep_zero, rep_succ, List.cons_append, List.nil_append, List.getElem?_cons_zero, List.getElem?_cons_succ, List.set_cons_zero, List.set_cons_succ, Nat.sub_self, Nat.reduceAdd, Nat.reduceSub, Option.map_some, Option.bind_some, if_true, Bool.not_true, Bool.not_false, Bool.false_eq_true, if_false, decide_true, decide_false, Int.reduceBEq, Int.reduceEq, Int.reduceLT, Int.reduceLE, Int.reduceNeg, Int.reduceAdd, Int.reduceSub, Int.reduceMul, Int.reduceToNat, Nat.reduceLT, Nat.reduceLeDiff, beq_self_eq_true, reduceIte, eq_self, Int.reduceNe, Int.reduceBNe, not_true_eq_false, not_false_eq_true, true_and, and_true, true_or, or_true, false_or, or_false, and_false, false_and, decide_eq_true_eq, Bool.true_and, Bool.and_true, Bool.false_and, Bool.and_false, Bool.true_or, Bool.or_true, Bool.false_or, Bool.or_false, List.isEmpty_cons, d1, dDin, d4, Option.map_none, Option.isSome_none] at h1
        simp only [fnOf, ev_seq, ev_asg, sBnd_def, ev_op, ev_un, bnd_def, ev_call, evs_cons, evs_nil, ev_var, ev_c, ev_if, ev_next, ev_expr, ev_tru, ev_bl, ev_and, ev_or, ev_not, ev_yes, ev_andE, ev_orE, ev_notE, ev_ifE, ev_chain, ofB_some, ofO_some, ofO_none, truD_non, truD_bl, truD_int, truD_str, truD_tup, truD_lst, truD_lsk, ev_tup, ev_lst, ev_nwF, ev_nwM, ev_meth, ev_make, ev_fld, ev_setF, ev_bm1, asQ_tup, asQ_lst, asQ_lsk, asL_lst, asL_lsk, dLen_tup, dLen_lst, dLen_lsk, dLen_str, dIx_tup, dIx_lst, dIx_lsk, dIx_str, dAdd_int, dNeg_int, isN_def, notN_def, isNon_non, isNon_int, isNon_bl, isNon_str, isNon_tup, isNon_lst, isNon_obj, isNon_exc, dEq_int, dNe_int, dEq_str, dNe_str, dEq_bl, atI_zero, atI_one, atI_2, atI_3, atI_4, atI_5, atI_6, atI_7, atI_8, atI_9, atI_10, atI_11, atI_12, atI_m1, ev_gT, setAll_nil, setAll_cons, iOp_int, ev_gN, ev_ret, List.map_cons, List.map_nil, List.length_cons, List.length_nil, rep_zero, rep_succ, List.cons_append, List.nil_append, List.getElem?_cons_zero, List.getElem?_cons_succ, List.set_cons_zero, List.set_cons_succ, Nat.sub_self, Nat.reduceAdd, Nat.reduceSub, Option.map_some, Option.bind_some, if_true, Bool.not_true, Bool.not_false, Bool.false_eq_true, if_false, decide_true, decide_false, Int.reduceBEq, Int.reduceEq, Int.reduceLT, Int.reduceLE, Int.reduceNeg, Int.reduceAdd, Int.reduceSub, Int.reduceMul, Int.reduceToNat, Nat.reduceLT, Nat.reduceLeDiff, beq_self_eq_true, reduceIte, eq_self, Int.reduceNe, Int.reduceBNe, not_true_eq_false, not_false_eq_true, true_and, and_true, true_or, or_true, false_or, or_false, and_false, false_and, decide_eq_true_eq, Bool.true_and, Bool.and_true, Bool.false_and, Bool.and_false, Bool.true_or, Bool.or_true, Bool.false_or, Bool.or_false, h1, List.isEmpty_cons, d1, dDin, dDget, d4, Option.isSome_some, b2, ev_sl, evp_some, evp_none, dSl_lst, c2, k2]
end
end Tx
namespace Tx
open PySem L2 Pd
/-! ### a book's other deeds -/
theorem hsAt_len {T : Tri} {tp N : Nat} (c : Con T tp N) (p : Pth) : (hsAt T p).length ≤ N := by
  unfold hsAt
  cases hv : valA T p with
  | none => exact Nat.zero_le _
  | some x => exact (c.sz p x hv).2
theorem if_len {α : Type} {b : Bool} {l : List α} {n : Nat} (h : l.length ≤ n) : (if b = true then l else []).length ≤ n := by
  split
  · exact h
  · exact Nat.zero_le _
theorem if_len2 {α : Type} {b : Bool} {l : List α} {n : Nat} (h : l.length ≤ n) : (if b = true then [] else l).length ≤ n := by
  split
  · exact Nat.zero_le _
  · exact h
theorem col_len {T : Tri} {tp N : Nat} (c : Con T tp N) : ∀ (ls p : Pth) (b : Bool), (col T ls p b).length ≤ (2 ^ (ls.length + 2) - 1) * N
  | [], p, b => by
    rw [col, List.length_append]
    have h1 := hsAt_len c (p ++ [[35]])
    have h2 := hsAt_len c p
    show _ ≤ 3 * N
    omega
  | q :: r, p, b => by
    rw [col, List.length_append]
    have h1 := hsAt_len c (p ++ [[35]])
    have h2 := if_len (b := (valA T (p ++ [[43]])).isSome) (col_len c r (p ++ [[43]]) false)
    have h3 := if_len (b := (valA T (p ++ [q])).isSome) (col_len c r (p ++ [q]) false)
    have h4 : (hsAt T (p ++ [[35]]) ++ (if (valA T (p ++ [[43]])).isSome = true then col T r (p ++ [[43]]) false else [])).length ≤ N + (2 ^ (r.length + 2) - 1) * N := by
      rw [List.length_append]
      omega
    have h5 := if_len2 (b := b && TL.pre [36] q) h4
    have e : (2 ^ ((q :: r).length + 2) - 1) * N = N + (2 ^ (r.length + 2) - 1) * N + (2 ^ (r.length + 2) - 1) * N := by
      rw [List.length_cons, show r.length + 1 + 2 = (r.length + 2) + 1 by omega, Nat.pow_succ]
      have : 1 ≤ 2 ^ (r.length + 2) := Nat.one_le_two_pow
      generalize 2 ^ (r.length + 2) = z at *
      obtain ⟨k, rfl⟩ : ∃ k, z = k + 1 := ⟨z - 1, by omega⟩
      rw [show (k + 1) * 2 - 1 = 1 + k + k by omega, show k + 1 - 1 = k by omega, Nat.add_mul, Nat.add_mul, Nat.one_mul]
    rw [e]
    omega
/-- who hears a name, in turn -/
def tell (rows : Rows) (l : List Nat) : Gr := sortK (fun e : List Nat × Int => [kT e.1, Sum.inl e.2]) (gat [] (dues rows l))
theorem keysOf_hs {s : Sto} {f : Nat} {m : Gr} (h : s[f]? = some (.dic (hsD m))) : keysOf s (.obj f) = some (m.map fun e => Dt.str (mkS e.1)) := by
  rw [keysOf_dic h, keys_hs]
theorem ok_texts (m : Gr) : sortOk (m.map fun e => Dt.str (mkS e.1)) = true := by
  have := sortOk_texts (m.map (·.1))
  rw [List.map_map] at this
  exact this
theorem ev_hears {bk N : Nat} {rows : Rows} {l : List Nat} {R : List SP} {s : Sto} (hl : isName l = true) (hN : (2 ^ ((splC 47 l).length + 2) - 1) * N < 900000) (o : Own (BkA bk rows N :: R) s) :
    ∃ L s', m_Book_hears [.obj bk, .str (mkS l)] s = .ok (.obj L) s' ∧ Own (At L (.lst ((tell rows l).map pairD)) :: BkA bk rows N :: R) s' := by
  obtain ⟨tp, rw, T, c, r, hrl, o1⟩ := own_bk.mp o
  obtain ⟨x0, t1, t2⟩ := c.top
  have e1 := insD_obj o1.get
  have n1 := o1.new (.dic [])
  have e2 := insD_obj (own2 n1).get
  have o2 : Own (At s.length (.dic (hsD [])) :: (triS T ++ (At bk (.ins 1 [.obj tp, .obj rw]) :: (At rw (.dit (rowsD rows)) :: R)))) (s ++ [.dic []]) := n1.perm (List.Perm.cons _ (List.perm_append_comm_assoc [At bk (.ins 1 [.obj tp, .obj rw]), At rw (.dit (rowsD rows))] (triS T) R))
  have cl := col_len c (splC 47 l) [] true
  have h8 := (name_parts hl).2
  obtain ⟨s1, h1, o3⟩ := ev_collect c 12 (splC 47 l) [] true x0 [] _ t1 (by omega) (fun _ => splC_ne 47 l) (by simp only [List.length_nil]; omega) o2
  rw [t2] at h1
  have h1 : m_Book_collect [.obj bk, .obj tp, .lst (lvs (splC 47 l)), .bl true, .obj s.length] (s ++ [.dic []]) = .ok .non s1 := h1
  -- the table that was put together
  have nd : ((gat [] (col T (splC 47 l) [] true)).map (·.1)).Nodup := gat_nodup List.nodup_nil
  have pm : (gat [] (col T (splC 47 l) [] true)).Perm (gat [] (dues rows l)) := by
    refine tab_perm nd (gat_nodup List.nodup_nil) fun k => (gat_same (fun e he => ?_) (fun e => mem_dues c r hl e) k).symm
    obtain ⟨x, k1, k2⟩ := List.mem_map.mp he
    obtain ⟨k3, _⟩ := List.mem_filter.mp k1
    rw [← k2]
    exact (r.ok x.1.1 x.1.2 x.2 k3).2.2.1
  have es : sortK (fun e : List Nat × Int => [kT e.1]) (gat [] (col T (splC 47 l) [] true)) = tell rows l := sort_pairs nd pm
  have z1 := keysOf_hs o3.get
  have z2 : dSortK nwF (.obj s.length) s1 = .ok (.lst ((tell rows l).map fun e => Dt.str (mkS e.1))) s1 := by
    unfold dSortK
    rw [z1]
    simp only [ok_texts, if_true]
    rw [sort_texts, es]
    rfl
  have e3 : lcGo (gN 3) Pd.tYes (eTup [eVar 3, eOp dDget (eVar 2) (eVar 3)]) (fun _ => True) ((tell rows l).map fun e => Dt.str (mkS e.1)) [some (.obj bk), some (.str (mkS l)), some (.obj s.length), none] s1 = .ok ((tell rows l).map pairD) s1 := by
    refine lc_map trivial fun e he => ⟨[some (.obj bk), some (.str (mkS l)), some (.obj s.length), some (.str (mkS e.1))], rfl, rfl, ?_⟩
    have he2 : e ∈ gat [] (col T (splC 47 l) [] true) := by
      rw [← es] at he
      exact (sortK_perm _ _).mem_iff.mp he
    have d := dg_txt (l := e.1) o3.get
    rw [(valA_mem nd).mpr he2] at d
    simp only [fnOf, ev_seq, ev_asg, sBnd_def, ev_op, ev_un, bnd_def, ev_call, evs_cons, evs_nil, ev_var, ev_c, ev_if, ev_next, ev_expr, ev_tru, ev_bl, ev_and, ev_or, ev_not, ev_yes, ev_andE, ev_orE, ev_notE, ev_ifE, ev_chain, ofB_some, ofO_some, ofO_none, truD_non, truD_bl, truD_int, truD_str, truD_tup, truD_lst, truD_lsk, ev_tup, ev_lst, ev_nwF, ev_nwM, ev_meth, ev_make, ev_fld, ev_setF, ev_bm1, asQ_tup, asQ_lst, asQ_lsk, asL_lst, asL_lsk, dLen_tup, dLen_lst, dLen_lsk, dLen_str, dIx_tup, dIx_lst, dIx_lsk, dIx_str, dAdd_int, dNeg_int, isN_def, notN_def, isNon_non, isNon_int, isNon_bl, isNon_str, isNon_tup, isNon_lst, isNon_obj, isNon_exc, dEq_int, dNe_int, dEq_str, dNe_str, dEq_bl, atI_zero, atI_one, atI_2, atI_3, atI_4, atI_5, atI_6, atI_7, atI_8, atI_9, atI_10, atI_11, atI_12, atI_m1, ev_gT, setAll_nil, setAll_cons, iOp_int, ev_gN, ev_ret, List.map_cons, List.map_nil, List.length_cons, List.length_nil, rep_zero, rep_succ, List.cons_append, List.nil_append, List.getElem?_cons_zero, List.getElem?_cons_succ, List.set_cons_zero, List.set_cons_succ, Nat.sub_self, Nat.reduceAdd, Nat.reduceSub, Option.map_some, Option.bind_some, if_true, Bool.not_true, Bool.not_false, Bool.false_eq_true, if_false, decide_true, decide_false, Int.reduceBEq, Int.reduceEq, Int.reduceLT, Int.reduceLE, Int.reduceNeg, Int.reduceAdd, Int.reduceSub, Int.reduceMul, Int.reduceToNat, Nat.reduceLT, Nat.reduceLeDiff, beq_self_eq_true, reduceIte, eq_self, Int.reduceNe, Int.reduceBNe, not_true_eq_false, not_false_eq_true, true_and, and_true, true_or, or_true, false_or, or_false, and_false, false_and, decide_eq_true_eq, Bool.true_and, Bool.and_true, Bool.false_and, Bool.and_false, Bool.true_or, Bool.or_true, Bool.false_or, Bool.or_false, dDget, d]
    rfl
  have o4 := (o3.drop).new (.lst ((tell rows l).map pairD))
  refine ⟨s1.length, _, ?_, (own2 (own_bk.mpr ⟨tp, rw, T, c, r, hrl, (?_ : Own (At bk (.ins 1 [.obj tp, .obj rw]) :: At rw (.dit (rowsD rows)) :: (triS T ++ (At s1.length (.lst ((tell rows l).map pairD)) :: R))) (s1 ++ [.lst ((tell rows l).map pairD)]))⟩))⟩
  · have q1 : m_look_name [.str (mkS l)] s = .ok .non s := by rw [ev_look_name, hl, if_pos rfl]
    unfold m_Book_hears b_Book_hears u_Book_hears_1 u_Book_hears_2 u_Book_hears_3 u_Book_hears_4
    simp only [fnOf, ev_seq, ev_asg, sBnd_def, ev_op, ev_un, bnd_def, ev_call, evs_cons, evs_nil, ev_var, ev_c, ev_if, ev_next, ev_expr, ev_tru, ev_bl, ev_and, ev_or, ev_not, ev_yes, ev_andE, ev_orE, ev_notE, ev_ifE, ev_chain, ofB_some, ofO_some, ofO_none, truD_non, truD_bl, truD_int, truD_str, truD_tup, truD_lst, truD_lsk, ev_tup, ev_lst, ev_nwF, ev_nwM, ev_meth, ev_make, ev_fld, ev_setF, ev_bm1, asQ_tup, asQ_lst, asQ_lsk, asL_lst, asL_lsk, dLen_tup, dLen_lst, dLen_lsk, dLen_str, dIx_tup, dIx_lst, dIx_lsk, dIx_str, dAdd_int, dNeg_int, isN_def, notN_def, isNon_non, isNon_int, isNon_bl, isNon_str, isNon_tup, isNon_lst, isNon_obj, isNon_exc, dEq_int, dNe_int, dEq_str, dNe_str, dEq_bl, atI_zero, atI_one, atI_2, atI_3, atI_4, atI_5, atI_6, atI_7, atI_8, atI_9, atI_10, atI_11, atI_12, atI_m1, ev_gT, setAll_nil, setAll_cons, iOp_int, ev_gN, ev_ret, List.map_cons, List.map_nil, List.length_cons, List.length_nil, rep_zero, rep_succ, List.cons_append, List.nil_append, List.getElem?_cons_zero, List.getElem?_cons_succ, List.set_cons_zero, List.set_cons_succ, Nat.sub_self, Nat.reduceAdd, Nat.reduceSub, Option.map_some, Option.bind_some, if_true, Bool.not_true, Bool.not_false, Bool.false_eq_true, if_false, decide_true, decide_false, Int.reduceBEq, Int.reduceEq, Int.reduceLT, Int.reduceLE, Int.reduceNeg, Int.reduceAdd, Int.reduceSub, Int.reduceMul, Int.reduceToNat, Nat.reduceLT, Nat.reduceLeDiff, beq_self_eq_true, reduceIte, eq_self, Int.reduceNe, Int.reduceBNe, not_true_eq_false, not_false_eq_true, true_and, and_true, true_or, or_true, false_or, or_false, and_false, false_and, decide_eq_true_eq, Bool.true_and, Bool.and_true, Bool.false_and, Bool.and_false, Bool.true_or, Bool.or_true, Bool.false_or, Bool.or_false, q1, ev_dnewK, e2, t_slash, isStr_str, dSplit_mk, h1, ev_lc, ev_iSeq, z2, wipeD_nil, wipeD_cons, bndN, e3]
  · have p1 : (At s1.length (.lst ((tell rows l).map pairD)) :: (triS T ++ (At bk (.ins 1 [.obj tp, .obj rw]) :: (At rw (.dit (rowsD rows)) :: R)))).Perm (At bk (.ins 1 [.obj tp, .obj rw]) :: At rw (.dit (rowsD rows)) :: (triS T ++ (At s1.length (.lst ((tell rows l).map pairD)) :: R))) := by
      have a1 : (triS T ++ (At bk (.ins 1 [.obj tp, .obj rw]) :: (At rw (.dit (rowsD rows)) :: R))).Perm (At bk (.ins 1 [.obj tp, .obj rw]) :: At rw (.dit (rowsD rows)) :: (triS T ++ R)) := List.perm_append_comm_assoc (triS T) [At bk (.ins 1 [.obj tp, .obj rw]), At rw (.dit (rowsD rows))] R
      have a2 : (At s1.length (.lst ((tell rows l).map pairD)) :: At bk (.ins 1 [.obj tp, .obj rw]) :: At rw (.dit (rowsD rows)) :: (triS T ++ R)).Perm (At bk (.ins 1 [.obj tp, .obj rw]) :: At rw (.dit (rowsD rows)) :: At s1.length (.lst ((tell rows l).map pairD)) :: (triS T ++ R)) := (List.Perm.swap _ _ _).trans ((List.Perm.swap _ _ _).cons _)
      exact (a1.cons _).trans (a2.trans ((List.perm_middle.symm.cons _).cons _))
    exact o4.perm p1
theorem no_hears {bk : Nat} {l : List Nat} {s : Sto} (hl : isName l = false) : m_Book_hears [.obj bk, .str (mkS l)] s = .exc 3 s := by
  have q1 : m_look_name [.str (mkS l)] s = .exc 3 s := by rw [ev_look_name, hl, if_neg Bool.false_ne_true]
  unfold m_Book_hears b_Book_hears u_Book_hears_1
  simp only [fnOf, ev_seq, ev_asg, sBnd_def, ev_op, ev_un, bnd_def, ev_call, evs_cons, evs_nil, ev_var, ev_c, ev_if, ev_next, ev_expr, ev_tru, ev_bl, ev_and, ev_or, ev_not, ev_yes, ev_andE, ev_orE, ev_notE, ev_ifE, ev_chain, ofB_some, ofO_some, ofO_none, truD_non, truD_bl, truD_int, truD_str, truD_tup, truD_lst, truD_lsk, ev_tup, ev_lst, ev_nwF, ev_nwM, ev_meth, ev_make, ev_fld, ev_setF, ev_bm1, asQ_tup, asQ_lst, asQ_lsk, asL_lst, asL_lsk, dLen_tup, dLen_lst, dLen_lsk, dLen_str, dIx_tup, dIx_lst, dIx_lsk, dIx_str, dAdd_int, dNeg_int, isN_def, notN_def, isNon_non, isNon_int, isNon_bl, isNon_str, isNon_tup, isNon_lst, isNon_obj, isNon_exc, dEq_int, dNe_int, dEq_str, dNe_str, dEq_bl, atI_zero, atI_one, atI_2, atI_3, atI_4, atI_5, atI_6, atI_7, atI_8, atI_9, atI_10, atI_11, atI_12, atI_m1, ev_gT, setAll_nil, setAll_cons, iOp_int, ev_gN, ev_ret, List.map_cons, List.map_nil, List.length_cons, List.length_nil, rep_zero, rep_succ, List.cons_append, List.nil_append, List.getElem?_cons_zero, List.getElem?_cons_succ, List.set_cons_zero, List.set_cons_succ, Nat.sub_self, Nat.reduceAdd, Nat.reduceSub, Option.map_some, Option.bind_some, if_true, Bool.not_true, Bool.not_false, Bool.false_eq_true, if_false, decide_true, decide_false, Int.reduceBEq, Int.reduceEq, Int.reduceLT, Int.reduceLE, Int.reduceNeg, Int.reduceAdd, Int.reduceSub, Int.reduceMul, Int.reduceToNat, Nat.reduceLT, Nat.reduceLeDiff, beq_self_eq_true, reduceIte, eq_self, Int.reduceNe, Int.reduceBNe, not_true_eq_false, not_false_eq_true, true_and, and_true, true_or, or_true, false_or, or_false, and_false, false_and, decide_eq_true_eq, Bool.true_and, Bool.and_true, Bool.false_and, Bool.and_false, Bool.true_or, Bool.or_true, Bool.false_or, Bool.or_false, q1]
/-- a hearer's wishes -/
def wls (rows : Rows) (h : List Nat) : Gr := (rows.filter fun x => x.1.1 == h).map fun x => (x.1.2, x.2)
def wtell (rows : Rows) (h : List Nat) : Gr := sortK (fun e : List Nat × Int => [kT e.1, Sum.inl e.2]) (wls rows h)
theorem keys_rows (rows : Rows) : ((rowsD rows).map fun kv => keysDt kv.1) = rows.map fun x => kD x.1.1 x.1.2 := by
  unfold rowsD bothM
  rw [List.map_map]
  rfl
theorem short_rows (rows : Rows) : ((rowsD rows).all fun kv => decide (kv.1.length ≤ 1000)) = true := by
  unfold rowsD bothM
  rw [List.all_map, List.all_eq_true]
  intro x _
  rfl
theorem dSorted_pairs {s : Sto} (l : Gr) : dSorted nwF (.lst (l.map pairD)) s = .ok (.lst ((sortK (fun e : List Nat × Int => [kT e.1, Sum.inl e.2]) l).map pairD)) s := by
  unfold dSorted
  simp only [asL_lst, sortOk_pairs, if_true, sort_pairD, ev_nwF]
theorem wls_map (rows : Rows) (h : List Nat) : ((rows.filter fun x => x.1.1 == h).map fun x => pairD (x.1.2, x.2)) = (wls rows h).map pairD := by
  unfold wls
  rw [List.map_map]
  rfl
theorem ev_wishes {bk N : Nat} {rows : Rows} {h : List Nat} {R : List SP} {s : Sto} (o : Own (BkA bk rows N :: R) s) : m_Book_wishes [.obj bk, .str (mkS h)] s = .ok (.lst ((wtell rows h).map pairD)) s := by
  obtain ⟨tp, rw, T, c, r, hrl, o1⟩ := own_bk.mp o
  have e1 := insD_obj o1.get
  have g2 := (own2 o1).get
  have o2 := own2 ((own2 o1).set (.ditL (rowsD rows)))
  have e2 := insD_obj o2.get
  have g3 := (own2 o2).get
  have e3 : lcGo (gT [2, 3]) (tBl (eOp dEq (eVar 2) (eVar 1))) (eTup [eVar 3, eOp dDget (eFld 1 1 (eVar 0)) (eTup [eVar 2, eVar 3])]) (fun s' => s'[rw]? = some (.ditL (rowsD rows))) (rows.map fun x => kD x.1.1 x.1.2) [some (.obj bk), some (.str (mkS h)), none, none] (s.set rw (.ditL (rowsD rows))) = .ok ((rows.filter fun x => x.1.1 == h).map fun x => pairD (x.1.2, x.2)) (s.set rw (.ditL (rowsD rows))) := by
    refine lc_filter g3 fun x hx => ⟨[some (.obj bk), some (.str (mkS h)), some (.str (mkS x.1.1)), some (.str (mkS x.1.2))], rfl, ?_, fun _ => ?_⟩
    · simp only [fnOf, ev_seq, ev_asg, sBnd_def, ev_op, ev_un, bnd_def, ev_call, evs_cons, evs_nil, ev_var, ev_c, ev_if, ev_next, ev_expr, ev_tru, ev_bl, ev_and, ev_or, ev_not, ev_yes, ev_andE, ev_orE, ev_notE, ev_ifE, ev_chain, ofB_some, ofO_some, ofO_none, truD_non, truD_bl, truD_int, truD_str, truD_tup, truD_lst, truD_lsk, ev_tup, ev_lst, ev_nwF, ev_nwM, ev_meth, ev_make, ev_fld, ev_setF, ev_bm1, asQ_tup, asQ_lst, asQ_lsk, asL_lst, asL_lsk, dLen_tup, dLen_lst, dLen_lsk, dLen_str, dIx_tup, dIx_lst, dIx_lsk, dIx_str, dAdd_int, dNeg_int, isN_def, notN_def, isNon_non, isNon_int, isNon_bl, isNon_str, isNon_tup, isNon_lst, isNon_obj, isNon_exc, dEq_int, dNe_int, dEq_str, dNe_str, dEq_bl, atI_zero, atI_one, atI_2, atI_3, atI_4, atI_5, atI_6, atI_7, atI_8, atI_9, atI_10, atI_11, atI_12, atI_m1, ev_gT, setAll_nil, setAll_cons, iOp_int, ev_gN, ev_ret, List.map_cons, List.map_nil, List.length_cons, List.length_nil, rep_zero, rep_succ, List.cons_append, List.nil_append, List.getElem?_cons_zero, List.getElem?_cons_succ, List.set_cons_zero, List.set_cons_succ, Nat.sub_self, Nat.reduceAdd, Nat.reduceSub, Option.map_some, Option.bind_some, if_true, Bool.not_true, Bool.not_false, Bool.false_eq_true, if_false, decide_true, decide_false, Int.reduceBEq, Int.reduceEq, Int.reduceLT, Int.reduceLE, Int.reduceNeg, Int.reduceAdd, Int.reduceSub, Int.reduceMul, Int.reduceToNat, Nat.reduceLT, Nat.reduceLeDiff, beq_self_eq_true, reduceIte, eq_self, Int.reduceNe, Int.reduceBNe, not_true_eq_false, not_false_eq_true, true_and, and_true, true_or, or_true, false_or, or_false, and_false, false_and, decide_eq_true_eq, Bool.true_and, Bool.and_true, Bool.false_and, Bool.and_false, Bool.true_or, Bool.or_true, Bool.false_or, Bool.or_false, mkS_beq]
    · have d := dg_rowL (h := x.1.1) (w := x.1.2) g3
      rw [(valA_mem r.rn).mpr hx] at d
      have d : dgetD (s.set rw (.ditL (rowsD rows))) (.obj rw) (.tup [.str (mkS x.1.1), .str (mkS x.1.2)]) = some (some (.int x.2)) := d
      simp only [fnOf, ev_seq, ev_asg, sBnd_def, ev_op, ev_un, bnd_def, ev_call, evs_cons, evs_nil, ev_var, ev_c, ev_if, ev_next, ev_expr, ev_tru, ev_bl, ev_and, ev_or, ev_not, ev_yes, ev_andE, ev_orE, ev_notE, ev_ifE, ev_chain, ofB_some, ofO_some, ofO_none, truD_non, truD_bl, truD_int, truD_str, truD_tup, truD_lst, truD_lsk, ev_tup, ev_lst, ev_nwF, ev_nwM, ev_meth, ev_make, ev_fld, ev_setF, ev_bm1, asQ_tup, asQ_lst, asQ_lsk, asL_lst, asL_lsk, dLen_tup, dLen_lst, dLen_lsk, dLen_str, dIx_tup, dIx_lst, dIx_lsk, dIx_str, dAdd_int, dNeg_int, isN_def, notN_def, isNon_non, isNon_int, isNon_bl, isNon_str, isNon_tup, isNon_lst, isNon_obj, isNon_exc, dEq_int, dNe_int, dEq_str, dNe_str, dEq_bl, atI_zero, atI_one, atI_2, atI_3, atI_4, atI_5, atI_6, atI_7, atI_8, atI_9, atI_10, atI_11, atI_12, atI_m1, ev_gT, setAll_nil, setAll_cons, iOp_int, ev_gN, ev_ret, List.map_cons, List.map_nil, List.length_cons, List.length_nil, rep_zero, rep_succ, List.cons_append, List.nil_append, List.getElem?_cons_zero, List.getElem?_cons_succ, List.set_cons_zero, List.set_cons_succ, Nat.sub_self, Nat.reduceAdd, Nat.reduceSub, Option.map_some, Option.bind_some, if_true, Bool.not_true, Bool.not_false, Bool.false_eq_true, if_false, decide_true, decide_false, Int.reduceBEq, Int.reduceEq, Int.reduceLT, Int.reduceLE, Int.reduceNeg, Int.reduceAdd, Int.reduceSub, Int.reduceMul, Int.reduceToNat, Nat.reduceLT, Nat.reduceLeDiff, beq_self_eq_true, reduceIte, eq_self, Int.reduceNe, Int.reduceBNe, not_true_eq_false, not_false_eq_true, true_and, and_true, true_or, or_true, false_or, or_false, and_false, false_and, decide_eq_true_eq, Bool.true_and, Bool.and_true, Bool.false_and, Bool.and_false, Bool.true_or, Bool.or_true, Bool.false_or, Bool.or_false, e2, dDget, d]
      rfl
  have q1 : (eFld 1 1 (eVar 0)) [some (.obj bk), some (.str (mkS h)), none, none] s = .ok (.obj rw) s := by simp only [fnOf, ev_seq, ev_asg, sBnd_def, ev_op, ev_un, bnd_def, ev_call, evs_cons, evs_nil, ev_var, ev_c, ev_if, ev_next, ev_expr, ev_tru, ev_bl, ev_and, ev_or, ev_not, ev_yes, ev_andE, ev_orE, ev_notE, ev_ifE, ev_chain, ofB_some, ofO_some, ofO_none, truD_non, truD_bl, truD_int, truD_str, truD_tup, truD_lst, truD_lsk, ev_tup, ev_lst, ev_nwF, ev_nwM, ev_meth, ev_make, ev_fld, ev_setF, ev_bm1, asQ_tup, asQ_lst, asQ_lsk, asL_lst, asL_lsk, dLen_tup, dLen_lst, dLen_lsk, dLen_str, dIx_tup, dIx_lst, dIx_lsk, dIx_str, dAdd_int, dNeg_int, isN_def, notN_def, isNon_non, isNon_int, isNon_bl, isNon_str, isNon_tup, isNon_lst, isNon_obj, isNon_exc, dEq_int, dNe_int, dEq_str, dNe_str, dEq_bl, atI_zero, atI_one, atI_2, atI_3, atI_4, atI_5, atI_6, atI_7, atI_8, atI_9, atI_10, atI_11, atI_12, atI_m1, ev_gT, setAll_nil, setAll_cons, iOp_int, ev_gN, ev_ret, List.map_cons, List.map_nil, List.length_cons, List.length_nil, rep_zero, rep_succ, List.cons_append, List.nil_append, List.getElem?_cons_zero, List.getElem?_cons_succ, List.set_cons_zero, List.set_cons_succ, Nat.sub_self, Nat.reduceAdd, Nat.reduceSub, Option.map_some, Option.bind_some, if_true, Bool.not_true, Bool.not_false, Bool.false_eq_true, if_false, decide_true, decide_false, Int.reduceBEq, Int.reduceEq, Int.reduceLT, Int.reduceLE, Int.reduceNeg, Int.reduceAdd, Int.reduceSub, Int.reduceMul, Int.reduceToNat, Nat.reduceLT, Nat.reduceLeDiff, beq_self_eq_true, reduceIte, eq_self, Int.reduceNe, Int.reduceBNe, not_true_eq_false, not_false_eq_true, true_and, and_true, true_or, or_true, false_or, or_false, and_false, false_and, decide_eq_true_eq, Bool.true_and, Bool.and_true, Bool.false_and, Bool.and_false, Bool.true_or, Bool.or_true, Bool.false_or, Bool.or_false, e1]
  have q2 : (eLc nwF [2, 3] (iKeysL (eFld 1 1 (eVar 0))) (gT [2, 3]) (tBl (eOp dEq (eVar 2) (eVar 1))) (eTup [eVar 3, eOp dDget (eFld 1 1 (eVar 0)) (eTup [eVar 2, eVar 3])])) [some (.obj bk), some (.str (mkS h)), none, none] (s.set rw (.ditL (rowsD rows))) = .ok (.lst ((wls rows h).map pairD)) (s.set rw (.ditL (rowsD rows))) := by
    simp only [fnOf, ev_seq, ev_asg, sBnd_def, ev_op, ev_un, bnd_def, ev_call, evs_cons, evs_nil, ev_var, ev_c, ev_if, ev_next, ev_expr, ev_tru, ev_bl, ev_and, ev_or, ev_not, ev_yes, ev_andE, ev_orE, ev_notE, ev_ifE, ev_chain, ofB_some, ofO_some, ofO_none, truD_non, truD_bl, truD_int, truD_str, truD_tup, truD_lst, truD_lsk, ev_tup, ev_lst, ev_nwF, ev_nwM, ev_meth, ev_make, ev_fld, ev_setF, ev_bm1, asQ_tup, asQ_lst, asQ_lsk, asL_lst, asL_lsk, dLen_tup, dLen_lst, dLen_lsk, dLen_str, dIx_tup, dIx_lst, dIx_lsk, dIx_str, dAdd_int, dNeg_int, isN_def, notN_def, isNon_non, isNon_int, isNon_bl, isNon_str, isNon_tup, isNon_lst, isNon_obj, isNon_exc, dEq_int, dNe_int, dEq_str, dNe_str, dEq_bl, atI_zero, atI_one, atI_2, atI_3, atI_4, atI_5, atI_6, atI_7, atI_8, atI_9, atI_10, atI_11, atI_12, atI_m1, ev_gT, setAll_nil, setAll_cons, iOp_int, ev_gN, ev_ret, List.map_cons, List.map_nil, List.length_cons, List.length_nil, rep_zero, rep_succ, List.cons_append, List.nil_append, List.getElem?_cons_zero, List.getElem?_cons_succ, List.set_cons_zero, List.set_cons_succ, Nat.sub_self, Nat.reduceAdd, Nat.reduceSub, Option.map_some, Option.bind_some, if_true, Bool.not_true, Bool.not_false, Bool.false_eq_true, if_false, decide_true, decide_false, Int.reduceBEq, Int.reduceEq, Int.reduceLT, Int.reduceLE, Int.reduceNeg, Int.reduceAdd, Int.reduceSub, Int.reduceMul, Int.reduceToNat, Nat.reduceLT, Nat.reduceLeDiff, beq_self_eq_true, reduceIte, eq_self, Int.reduceNe, Int.reduceBNe, not_true_eq_false, not_false_eq_true, true_and, and_true, true_or, or_true, false_or, or_false, and_false, false_and, decide_eq_true_eq, Bool.true_and, Bool.and_true, Bool.false_and, Bool.and_false, Bool.true_or, Bool.or_true, Bool.false_or, Bool.or_false, ev_lc, ev_keysL, e2, g3, keys_rows, short_rows, wipeD_nil, wipeD_cons, bndN, e3, wls_map]
  have q3 := lock_pure q1 g2 rfl q2
  unfold m_Book_wishes b_Book_wishes
  simp only [fnOf, ev_seq, ev_asg, sBnd_def, ev_op, ev_un, bnd_def, ev_call, evs_cons, evs_nil, ev_var, ev_c, ev_if, ev_next, ev_expr, ev_tru, ev_bl, ev_and, ev_or, ev_not, ev_yes, ev_andE, ev_orE, ev_notE, ev_ifE, ev_chain, ofB_some, ofO_some, ofO_none, truD_non, truD_bl, truD_int, truD_str, truD_tup, truD_lst, truD_lsk, ev_tup, ev_lst, ev_nwF, ev_nwM, ev_meth, ev_make, ev_fld, ev_setF, ev_bm1, asQ_tup, asQ_lst, asQ_lsk, asL_lst, asL_lsk, dLen_tup, dLen_lst, dLen_lsk, dLen_str, dIx_tup, dIx_lst, dIx_lsk, dIx_str, dAdd_int, dNeg_int, isN_def, notN_def, isNon_non, isNon_int, isNon_bl, isNon_str, isNon_tup, isNon_lst, isNon_obj, isNon_exc, dEq_int, dNe_int, dEq_str, dNe_str, dEq_bl, atI_zero, atI_one, atI_2, atI_3, atI_4, atI_5, atI_6, atI_7, atI_8, atI_9, atI_10, atI_11, atI_12, atI_m1, ev_gT, setAll_nil, setAll_cons, iOp_int, ev_gN, ev_ret, List.map_cons, List.map_nil, List.length_cons, List.length_nil, rep_zero, rep_succ, List.cons_append, List.nil_append, List.getElem?_cons_zero, List.getElem?_cons_succ, List.set_cons_zero, List.set_cons_succ, Nat.sub_self, Nat.reduceAdd, Nat.reduceSub, Option.map_some, Option.bind_some, if_true, Bool.not_true, Bool.not_false, Bool.false_eq_true, if_false, decide_true, decide_false, Int.reduceBEq, Int.reduceEq, Int.reduceLT, Int.reduceLE, Int.reduceNeg, Int.reduceAdd, Int.reduceSub, Int.reduceMul, Int.reduceToNat, Nat.reduceLT, Nat.reduceLeDiff, beq_self_eq_true, reduceIte, eq_self, Int.reduceNe, Int.reduceBNe, not_true_eq_false, not_false_eq_true, true_and, and_true, true_or, or_true, false_or, or_false, and_false, false_and, decide_eq_true_eq, Bool.true_and, Bool.and_true, Bool.false_and, Bool.and_false, Bool.true_or, Bool.or_true, Bool.false_or, Bool.or_false, q3, dSorted_pairs]
  rfl
theorem ev_size {bk N : Nat} {rows : Rows} {R : List SP} {s : Sto} (o : Own (BkA bk rows N :: R) s) : m_Book_size [.obj bk] s = .ok (.int rows.length) s := by
  obtain ⟨tp, rw, T, c, r, hrl, o1⟩ := own_bk.mp o
  have e1 := insD_obj o1.get
  have e2 : dLen (.obj rw) s = .ok (.int rows.length) s := by
    simp only [dLen, lenD, (own2 o1).get]
    unfold rowsD bothM
    rw [List.length_map]
    rfl
  unfold m_Book_size b_Book_size
  simp only [fnOf, ev_seq, ev_asg, sBnd_def, ev_op, ev_un, bnd_def, ev_call, evs_cons, evs_nil, ev_var, ev_c, ev_if, ev_next, ev_expr, ev_tru, ev_bl, ev_and, ev_or, ev_not, ev_yes, ev_andE, ev_orE, ev_notE, ev_ifE, ev_chain, ofB_some, ofO_some, ofO_none, truD_non, truD_bl, truD_int, truD_str, truD_tup, truD_lst, truD_lsk, ev_tup, ev_lst, ev_nwF, ev_nwM, ev_meth, ev_make, ev_fld, ev_setF, ev_bm1, asQ_tup, asQ_lst, asQ_lsk, asL_lst, asL_lsk, dLen_tup, dLen_lst, dLen_lsk, dLen_str, dIx_tup, dIx_lst, dIx_lsk, dIx_str, dAdd_int, dNeg_int, isN_def, notN_def, isNon_non, isNon_int, isNon_bl, isNon_str, isNon_tup, isNon_lst, isNon_obj, isNon_exc, dEq_int, dNe_int, dEq_str, dNe_str, dEq_bl, atI_zero, atI_one, atI_2, atI_3, atI_4, atI_5, atI_6, atI_7, atI_8, atI_9, atI_10, atI_11, atI_12, atI_m1, ev_gT, setAll_nil, setAll_cons, iOp_int, ev_gN, ev_ret, List.map_cons, List.map_nil, List.length_cons, List.length_nil, rep_zero, rep_succ, List.cons_append, List.nil_append, List.getElem?_cons_zero, List.getElem?_cons_succ, List.set_cons_zero, List.set_cons_succ, Nat.sub_self, Nat.reduceAdd, Nat.reduceSub, Option.map_some, Option.bind_some, if_true, Bool.not_true, Bool.not_false, Bool.false_eq_true, if_false, decide_true, decide_false, Int.reduceBEq, Int.reduceEq, Int.reduceLT, Int.reduceLE, Int.reduceNeg, Int.reduceAdd, Int.reduceSub, Int.reduceMul, Int.reduceToNat, Nat.reduceLT, Nat.reduceLeDiff, beq_self_eq_true, reduceIte, eq_self, Int.reduceNe, Int.reduceBNe, not_true_eq_false, not_false_eq_true, true_and, and_true, true_or, or_true, false_or, or_false, and_false, false_and, decide_eq_true_eq, Bool.true_and, Bool.and_true, Bool.false_and, Bool.and_false, Bool.true_or, Bool.or_true, Bool.false_or, Bool.or_false, e1, e2]
/-- wishes of a hearer taken away -/
def dropS (rows : Rows) (h : List Nat) (pre : Gr) : Rows := rows.filter fun x => !(x.1.1 == h && pre.any fun e => e.1 == x.1.2)
theorem dropS_snoc (rows : Rows) (h : List Nat) (pre : Gr) (e : List Nat × Int) : dropA (dropS rows h pre) (h, e.1) = dropS rows h (pre ++ [e]) := by
  unfold dropA dropS
  rw [List.filter_filter]
  apply List.filter_congr
  intro x _
  obtain ⟨⟨a, b⟩, g⟩ := x
  rw [List.any_append, List.any_cons, List.any_nil, Bool.or_false]
  by_cases h1 : a = h
  · by_cases h2 : e.1 = b
    · subst h1; subst h2; simp
    · have h3 : ¬ b = e.1 := fun z => h2 z.symm
      have h4 : (e.1 == b) = false := by simpa using h2
      rw [h4, Bool.or_false]
      simp [h1, h3]
  · have h4 : (a == h) = false := by simpa using h1
    rw [h4]
    simp [h1]
theorem dropS_all (rows : Rows) (h : List Nat) : dropS rows h (wtell rows h) = rows.filter fun x => !(x.1.1 == h) := by
  unfold dropS
  apply List.filter_congr
  intro x hx
  cases h1 : (x.1.1 == h) with
  | false => rfl
  | true =>
    have : (wtell rows h).any (fun e => e.1 == x.1.2) = true := by
      rw [List.any_eq_true]
      refine ⟨(x.1.2, x.2), (sortK_perm _ _).mem_iff.mpr (List.mem_map.mpr ⟨x, List.mem_filter.mpr ⟨hx, h1⟩, rfl⟩), by simp⟩
    rw [this]
    rfl
theorem ev_leave {bk N : Nat} {rows : Rows} {h : List Nat} {R : List SP} {s : Sto} (o : Own (BkA bk rows N :: R) s) :
    ∃ s', m_Book_leave [.obj bk, .str (mkS h)] s = .ok (.int (rows.filter fun x => x.1.1 == h).length) s' ∧ Own (BkA bk (rows.filter fun x => !(x.1.1 == h)) N :: R) s' := by
  have bkI : ∀ {s : Sto} {rows : Rows}, Own (BkA bk rows N :: R) s → ∃ fs, insD s 1 (.obj bk) = some (bk, fs) := fun o => by
    obtain ⟨tp, rw, T, c, r, hrl, o1⟩ := own_bk.mp o
    exact ⟨_, insD_obj o1.get⟩
  obtain ⟨fs, e1⟩ := bkI o
  have w1 := ev_wishes (h := h) o
  obtain ⟨e, s', h1, a, b, h2, h3⟩ := for_map (tg := gT [3, 4]) (body := l_Book_leave_1) (ok := fun _ => True) (f := pairD)
    (fun pre env s' => ∃ a b, env = [some (.obj bk), some (.str (mkS h)), some (.lst ((wtell rows h).map pairD)), a, b] ∧ Own (BkA bk (dropS rows h pre) N :: R) s')
    (wtell rows h) [some (.obj bk), some (.str (mkS h)), some (.lst ((wtell rows h).map pairD)), none, none] s ⟨none, none, rfl, by
      have : dropS rows h [] = rows := by
        unfold dropS
        rw [List.filter_eq_self]
        intro x _
        simp
      rw [this]
      exact o⟩
    (fun pre e post env s' hall hi => by
      obtain ⟨a, b, k1, k2⟩ := hi
      subst k1
      obtain ⟨fs, e1⟩ := bkI k2
      obtain ⟨s2, j1, j2⟩ := ev_drop (h := h) (w := e.1) k2
      rw [dropS_snoc] at j2
      have bd : l_Book_leave_1 [some (.obj bk), some (.str (mkS h)), some (.lst ((wtell rows h).map pairD)), some (.str (mkS e.1)), some (.int e.2)] s' = .fl (.nx [some (.obj bk), some (.str (mkS h)), some (.lst ((wtell rows h).map pairD)), some (.str (mkS e.1)), some (.int e.2)]) s2 := by
        unfold l_Book_leave_1
        simp only [fnOf, ev_seq, ev_asg, sBnd_def, ev_op, ev_un, bnd_def, ev_call, evs_cons, evs_nil, ev_var, ev_c, ev_if, ev_next, ev_expr, ev_tru, ev_bl, ev_and, ev_or, ev_not, ev_yes, ev_andE, ev_orE, ev_notE, ev_ifE, ev_chain, ofB_some, ofO_some, ofO_none, truD_non, truD_bl, truD_int, truD_str, truD_tup, truD_lst, truD_lsk, ev_tup, ev_lst, ev_nwF, ev_nwM, ev_meth, ev_make, ev_fld, ev_setF, ev_bm1, asQ_tup, asQ_lst, asQ_lsk, asL_lst, asL_lsk, dLen_tup, dLen_lst, dLen_lsk, dLen_str, dIx_tup, dIx_lst, dIx_lsk, dIx_str, dAdd_int, dNeg_int, isN_def, notN_def, isNon_non, isNon_int, isNon_bl, isNon_str, isNon_tup, isNon_lst, isNon_obj, isNon_exc, dEq_int, dNe_int, dEq_str, dNe_str, dEq_bl, atI_zero, atI_one, atI_2, atI_3, atI_4, atI_5, atI_6, atI_7, atI_8, atI_9, atI_10, atI_11, atI_12, atI_m1, ev_gT, setAll_nil, setAll_cons, iOp_int, ev_gN, ev_ret, List.map_cons, List.map_nil, List.length_cons, List.length_nil, rep_zero, rep_succ, List.cons_append, List.nil_append, List.getElem?_cons_zero, List.getElem?_cons_succ, List.set_cons_zero, List.set_cons_succ, Nat.sub_self, Nat.reduceAdd, Nat.reduceSub, Option.map_some, Option.bind_some, if_true, Bool.not_true, Bool.not_false, Bool.false_eq_true, if_false, decide_true, decide_false, Int.reduceBEq, Int.reduceEq, Int.reduceLT, Int.reduceLE, Int.reduceNeg, Int.reduceAdd, Int.reduceSub, Int.reduceMul, Int.reduceToNat, Nat.reduceLT, Nat.reduceLeDiff, beq_self_eq_true, reduceIte, eq_self, Int.reduceNe, Int.reduceBNe, not_true_eq_false, not_false_eq_true, true_and, and_true, true_or, or_true, false_or, or_false, and_false, false_and, decide_eq_true_eq, Bool.true_and, Bool.and_true, Bool.false_and, Bool.and_false, Bool.true_or, Bool.or_true, Bool.false_or, Bool.or_false, e1, j1]
      exact ⟨_, rfl, _, s2, .inl bd, _, _, rfl, j2⟩)
    (fun _ _ _ _ => trivial)
  subst h2
  rw [dropS_all] at h3
  have hlen : (wtell rows h).length = (rows.filter fun x => x.1.1 == h).length := by
    unfold wtell
    rw [(sortK_perm _ _).length_eq]
    unfold wls
    rw [List.length_map]
  refine ⟨s', ?_, h3⟩
  unfold m_Book_leave b_Book_leave
  simp only [fnOf, ev_seq, ev_asg, sBnd_def, ev_op, ev_un, bnd_def, ev_call, evs_cons, evs_nil, ev_var, ev_c, ev_if, ev_next, ev_expr, ev_tru, ev_bl, ev_and, ev_or, ev_not, ev_yes, ev_andE, ev_orE, ev_notE, ev_ifE, ev_chain, ofB_some, ofO_some, ofO_none, truD_non, truD_bl, truD_int, truD_str, truD_tup, truD_lst, truD_lsk, ev_tup, ev_lst, ev_nwF, ev_nwM, ev_meth, ev_make, ev_fld, ev_setF, ev_bm1, asQ_tup, asQ_lst, asQ_lsk, asL_lst, asL_lsk, dLen_tup, dLen_lst, dLen_lsk, dLen_str, dIx_tup, dIx_lst, dIx_lsk, dIx_str, dAdd_int, dNeg_int, isN_def, notN_def, isNon_non, isNon_int, isNon_bl, isNon_str, isNon_tup, isNon_lst, isNon_obj, isNon_exc, dEq_int, dNe_int, dEq_str, dNe_str, dEq_bl, atI_zero, atI_one, atI_2, atI_3, atI_4, atI_5, atI_6, atI_7, atI_8, atI_9, atI_10, atI_11, atI_12, atI_m1, ev_gT, setAll_nil, setAll_cons, iOp_int, ev_gN, ev_ret, List.map_cons, List.map_nil, List.length_cons, List.length_nil, rep_zero, rep_succ, List.cons_append, List.nil_append, List.getElem?_cons_zero, List.getElem?_cons_succ, List.set_cons_zero, List.set_cons_succ, Nat.sub_self, Nat.reduceAdd, Nat.reduceSub, Option.map_some, Option.bind_some, if_true, Bool.not_true, Bool.not_false, Bool.false_eq_true, if_false, decide_true, decide_false, Int.reduceBEq, Int.reduceEq, Int.reduceLT, Int.reduceLE, Int.reduceNeg, Int.reduceAdd, Int.reduceSub, Int.reduceMul, Int.reduceToNat, Nat.reduceLT, Nat.reduceLeDiff, beq_self_eq_true, reduceIte, eq_self, Int.reduceNe, Int.reduceBNe, not_true_eq_false, not_false_eq_true, true_and, and_true, true_or, or_true, false_or, or_false, and_false, false_and, decide_eq_true_eq, Bool.true_and, Bool.and_true, Bool.false_and, Bool.and_false, Bool.true_or, Bool.or_true, Bool.false_or, Bool.or_false, e1, w1, ev_for, ev_iSeq, h1, List.length_map, hlen]
theorem bk_init {R : List SP} {s : Sto} (o : Own R s) : ∃ s', m_Book_init [.obj s.length] (s ++ [.ins 1 []]) = .ok .non s' ∧ Own (BkA s.length [] 0 :: R) s' := by
  have o1 := o.new (.ins 1 [])
  obtain ⟨b, h, s2, h1, o2⟩ := nd_init o1
  have o2 : Own (At (s ++ [Mo.ins 1 []]).length (.ins 0 [.obj b, .obj h]) :: At b (.dic (chD [])) :: At h (.dic (hsD [])) :: At s.length (.ins 1 []) :: R) s2 := o2
  have o3 := own4 o2
  have z := setFD_obj (i := 0) (y := .obj (s ++ [Mo.ins 1 []]).length) o3.get (by simp)
  have p0 : putI 0 (Dt.obj (s ++ [Mo.ins 1 []]).length) [] = [.obj (s ++ [Mo.ins 1 []]).length] := rfl
  rw [p0] at z
  have o4 := o3.set (.ins 1 [.obj (s ++ [Mo.ins 1 []]).length])
  have o5 := o4.new (.dit [])
  have z2 := setFD_obj (i := 1) (y := .obj (s2.set s.length (.ins 1 [.obj (s ++ [Mo.ins 1 []]).length])).length) (own2 o5).get (by simp)
  have p1 : ∀ a c : Dt, putI 1 c [a] = [a, c] := fun _ _ => rfl
  rw [p1] at z2
  have o6 := (own2 o5).set (.ins 1 [.obj (s ++ [Mo.ins 1 []]).length, .obj (s2.set s.length (.ins 1 [.obj (s ++ [Mo.ins 1 []]).length])).length])
  refine ⟨_, ?_, own_bk.mpr ⟨(s ++ [Mo.ins 1 []]).length, _, [([], ⟨(s ++ [Mo.ins 1 []]).length, b, h, [], []⟩)], ?_, ?_, Nat.le_refl _, o6⟩⟩
  · unfold m_Book_init b_Book_init
    simp only [fnOf, ev_seq, ev_asg, sBnd_def, ev_op, ev_un, bnd_def, ev_call, evs_cons, evs_nil, ev_var, ev_c, ev_if, ev_next, ev_expr, ev_tru, ev_bl, ev_and, ev_or, ev_not, ev_yes, ev_andE, ev_orE, ev_notE, ev_ifE, ev_chain, ofB_some, ofO_some, ofO_none, truD_non, truD_bl, truD_int, truD_str, truD_tup, truD_lst, truD_lsk, ev_tup, ev_lst, ev_nwF, ev_nwM, ev_meth, ev_make, ev_fld, ev_setF, ev_bm1, asQ_tup, asQ_lst, asQ_lsk, asL_lst, asL_lsk, dLen_tup, dLen_lst, dLen_lsk, dLen_str, dIx_tup, dIx_lst, dIx_lsk, dIx_str, dAdd_int, dNeg_int, isN_def, notN_def, isNon_non, isNon_int, isNon_bl, isNon_str, isNon_tup, isNon_lst, isNon_obj, isNon_exc, dEq_int, dNe_int, dEq_str, dNe_str, dEq_bl, atI_zero, atI_one, atI_2, atI_3, atI_4, atI_5, atI_6, atI_7, atI_8, atI_9, atI_10, atI_11, atI_12, atI_m1, ev_gT, setAll_nil, setAll_cons, iOp_int, ev_gN, ev_ret, List.map_cons, List.map_nil, List.length_cons, List.length_nil, rep_zero, rep_succ, List.cons_append, List.nil_append, List.getElem?_cons_zero, List.getElem?_cons_succ, List.set_cons_zero, List.set_cons_succ, Nat.sub_self, Nat.reduceAdd, Nat.reduceSub, Option.map_some, Option.bind_some, if_true, Bool.not_true, Bool.not_false, Bool.false_eq_true, if_false, decide_true, h1, z, ev_dnewT, z2]
  · have v : ∀ q x, valA ([([], ⟨(s ++ [Mo.ins 1 []]).length, b, h, [], []⟩)] : Tri) q = some x → q = [] ∧ x = ⟨(s ++ [Mo.ins 1 []]).length, b, h, [], []⟩ := fun q x hx => by
      have := valA_some hx
      rw [List.mem_singleton] at this
      cases this
      exact ⟨rfl, rfl⟩
    have n : ∀ (q : Pth) (l : List Nat), valA ([([], ⟨(s ++ [Mo.ins 1 []]).length, b, h, [], []⟩)] : Tri) (q ++ [l]) = none := fun q l => by
      rw [valA_none]
      simp
    refine ⟨by simp, ⟨_, valA_cons_eq, rfl⟩, ?_, ?_, ?_, ?_⟩
    · intro p x hx l
      rw [n, (v p x hx).2]
      rfl
    · intro p l hp
      rw [n] at hp
      cases hp
    · intro p x hx
      rw [(v p x hx).2]
      exact ⟨Nat.le_refl _, Nat.le_refl _⟩
    · intro p x hx
      rw [(v p x hx).2]
      exact List.nodup_nil
  · refine ⟨List.nodup_nil, (fun _ _ _ h => nomatch h), (fun _ _ _ h => nomatch h), fun p a g hm => ?_⟩
    exfalso
    unfold hsAt at hm
    cases hv : valA ([([], ⟨(s ++ [Mo.ins 1 []]).length, b, h, [], []⟩)] : Tri) p with
    | none => rw [hv] at hm; cases hm
    | some x =>
      have := valA_some hv
      rw [List.mem_singleton] at this
      cases this
      rw [hv] at hm
      cases hm
end Tx
namespace Tx
open PySem L2 Pd
/-! ### lists of texts, compared -/
theorem toPys_lvs : ∀ ps : List (List Nat), toPys (lvs ps) = some (ps.map fun p => .str (mkS p))
  | [] => rfl
  | p :: ps => by
    have ih := toPys_lvs ps
    simp only [lvs] at ih
    simp only [lvs, List.map_cons, toPys, toPy, ih]
theorem depth_lvs : ∀ ps : List (List Nat), PyData.depthAll (ps.map fun p => .str (mkS p)) = 0
  | [] => rfl
  | p :: ps => by simp only [List.map_cons, PyData.depthAll, PyData.depth, depth_lvs ps]; rfl
theorem eqvAll_lvs : ∀ a b : List (List Nat), PyData.eqvAll (a.map fun p => .str (mkS p)) (b.map fun p => .str (mkS p)) = (a == b)
  | [], [] => rfl
  | [], q :: b => rfl
  | p :: a, [] => rfl
  | p :: a, q :: b => by
    simp only [List.map_cons, PyData.eqvAll, PyData.eqv, eqvAll_lvs a b, mkS_beq]
    rfl
theorem dEqB_lvs (a b : List (List Nat)) (s : Sto) : dEqB s (.lst (lvs a)) (.lst (lvs b)) = some (a == b) := by
  simp only [dEqB, toPyS, toPy, toPys_lvs, Option.map_some, PyData.depth, depth_lvs, PyData.eqv, eqvAll_lvs]
  rfl
theorem dEq_lvs (a b : List (List Nat)) (s : Sto) : dEq (.lst (lvs a)) (.lst (lvs b)) s = .ok (.bl (a == b)) s := by simp only [dEq, dEqB_lvs, Option.map_some, ofO_some]
theorem dNe_lvs (a b : List (List Nat)) (s : Sto) : dNe (.lst (lvs a)) (.lst (lvs b)) s = .ok (.bl (!(a == b))) s := by simp only [dNe, dEqB_lvs, Option.map_some, ofO_some]
theorem gl_free {l : List Nat} (h : gl l = true) : 47 ∉ l := fun hm => by
  unfold gl at h
  simp only [Bool.and_eq_true] at h
  have := List.all_eq_true.mp h.2 47 hm
  exact absurd this (by decide)
theorem joinL_nil {f : List (List Nat)} (h : TL.joinL [47] f = []) : f = [] ∨ f = [[]] := by
  match f, h with
  | [], _ => exact .inl rfl
  | [p], h => right; rw [show p = [] from h]
  | p :: q :: r, h => simp [TL.joinL] at h
theorem name_join {f : List (List Nat)} (h0 : f ≠ []) (h1 : f ≠ [[]]) (hg : ∀ x ∈ f, gl x = true) (h8 : f.length ≤ 8) : isName (TL.joinL [47] f) = true ∧ splC 47 (TL.joinL [47] f) = f := by
  have e := splC_join 47 h0 fun p hp => gl_free (hg p hp)
  refine ⟨?_, e⟩
  unfold isName
  rw [e]
  have : (TL.joinL [47] f == []) = false := by
    rw [beq_eq_false_iff_ne]
    intro h
    rcases joinL_nil h with h | h
    · exact h0 h
    · exact h1 h
  rw [this, decide_eq_true h8]
  exact List.all_eq_true.mpr hg
/-! ### books alike, plainly -/
theorem sort2_perm {l m : Gr} (p : l.Perm m) : sortK (fun e : List Nat × Int => [kT e.1, Sum.inl e.2]) l = sortK (fun e : List Nat × Int => [kT e.1, Sum.inl e.2]) m := by
  refine sorted_unique (fun e : List Nat × Int => [kT e.1, Sum.inl e.2]) ((sortK_perm _ l).trans (p.trans (sortK_perm _ m).symm)) (fun a _ b _ e => ?_) (sortK_sorted _ l) (sortK_sorted _ m)
  simp only [List.cons.injEq, and_true] at e
  exact Prod.ext (kT_inj e.1) (Sum.inl.inj e.2)
theorem tell_perm {r r' : Rows} (p : r.Perm r') (h : ∀ x ∈ r, 0 ≤ x.2) (l : List Nat) : tell r l = tell r' l := by
  unfold tell
  refine sort2_perm (tab_perm (gat_nodup List.nodup_nil) (gat_nodup List.nodup_nil) fun k => gat_same (fun e he => ?_) (fun e => ?_) k)
  · unfold dues at he
    obtain ⟨x, h1, h2⟩ := List.mem_map.mp he
    rw [← h2]
    exact h x (List.mem_filter.mp h1).1
  · unfold dues
    exact ((p.filter _).map _).mem_iff
theorem wtell_perm {r r' : Rows} (p : r.Perm r') (h : List Nat) : wtell r h = wtell r' h := by
  unfold wtell wls
  exact sort2_perm ((p.filter _).map _)
theorem wish_join {ps : List (List Nat)} (h0 : ps ≠ []) (h1 : ps ≠ [[]]) (h8 : ps.length ≤ 8) (hf : ∀ p ∈ ps, 47 ∉ p) (hg : ∀ p ∈ plain ps, gw p = true) : isWish (TL.joinL [47] ps) = true ∧ splC 47 (TL.joinL [47] ps) = ps := by
  have e := splC_join 47 h0 hf
  refine ⟨?_, e⟩
  unfold isWish
  rw [e]
  have : (TL.joinL [47] ps == []) = false := by
    rw [beq_eq_false_iff_ne]
    intro h
    rcases joinL_nil h with h | h
    · exact h0 h
    · exact h1 h
  rw [this, decide_eq_true h8]
  exact List.all_eq_true.mpr hg
theorem gw_free {p : List Nat} (h : gw p = true) : 47 ∉ p := by
  unfold gw at h
  rw [Bool.or_eq_true] at h
  rcases h with h | h
  · have e : p = [43] := by simpa using h
    rw [e]; decide
  · exact gl_free h
theorem gw_len {p : List Nat} (h : gw p = true) : p.length ≤ 12 := by
  unfold gw at h
  rw [Bool.or_eq_true] at h
  rcases h with h | h
  · have e : p = [43] := by simpa using h
    rw [e]; decide
  · unfold gl at h
    simp only [Bool.and_eq_true, decide_eq_true_eq] at h
    exact h.1
theorem dNe_objs {s : Sto} {L1 L2 : Nat} {l : List Dt} (h : s[L1]? = some (.lst l)) (h2 : s[L2]? = some (.lst l)) (hd : ∀ d ∈ l, dpt d = some 1) : dNe (.obj L1) (.obj L2) s = .ok (.bl false) s := by
  obtain ⟨n, h3, h4⟩ := dpts_all hd
  obtain ⟨q, e1, e2⟩ := dpts_py l n h3
  have a1 : toPyS s (.obj L1) = some (.list q) := by simp only [toPyS, h, e1, Option.map_some]
  have a2 : toPyS s (.obj L2) = some (.list q) := by simp only [toPyS, h2, e1, Option.map_some]
  have e3 : (PyData.list q).depth ≤ 64 := by simp only [PyData.depth]; omega
  have e4 : noDict (.list q) = true := by
    simp only [noDict]
    exact toPys_noDict l q e1
  have e5 : dEqB s (.obj L1) (.obj L2) = some true := by simp only [dEqB, a1, a2, if_pos (And.intro e3 e3), eqv_self _ e4]
  simp only [dNe, e5, Option.map_some, ofO_some, Bool.not_true]
theorem dpt_pair (l : Gr) : ∀ d ∈ l.map pairD, dpt d = some 1 := fun d hd => by
  obtain ⟨e, _, h⟩ := List.mem_map.mp hd
  rw [← h]
  rfl
/-! ### a wish of the law -/
theorem t_plsl : Str.ofString "+/" = mkS [43, 47] := by decide +kernel
theorem sum_len12 {Q : List (List Nat)} (h : ∀ q ∈ Q, q.length ≤ 12) : (Q.map (·.length)).sum ≤ 12 * Q.length := by
  induction Q with
  | nil => simp
  | cons q Q ih =>
    have h1 := h q List.mem_cons_self
    have h2 := ih fun x hx => h x (List.mem_cons_of_mem _ hx)
    rw [List.map_cons, List.sum_cons, List.length_cons, Nat.mul_succ]
    omega
theorem lvs_of {ys : List Dt} {P : List Nat → Prop} (h : ∀ y ∈ ys, ∃ q, P q ∧ y = .str (mkS q)) : ∃ Q : List (List Nat), ys = lvs Q ∧ ∀ q ∈ Q, P q := by
  induction ys with
  | nil => exact ⟨[], rfl, fun _ h => nomatch h⟩
  | cons y ys ih =>
    obtain ⟨Q, e, hQ⟩ := ih fun y hy => h y (List.mem_cons_of_mem _ hy)
    obtain ⟨q, hq, e2⟩ := h y List.mem_cons_self
    refine ⟨q :: Q, by rw [e, e2]; rfl, fun z hz => ?_⟩
    rcases List.mem_cons.mp hz with e3 | hz
    · rw [e3]; exact hq
    · exact hQ z hz
theorem ev_lwish (ns : List Int) {t N : Nat} {Q : List (List Nat)} {R : List SP} {s : Sto} (h1 : 1 ≤ Q.length) (h4 : Q.length ≤ 4) (hQ : ∀ q ∈ Q, gl q = true) (hN : N + 100 < 900000) (o : Own (Tw t N :: R) s) :
    ∃ w s', m_law_wish [sc ns, .obj t, .lst (lvs Q)] s = .ok (.str (mkS w)) s' ∧ isWish w = true ∧ Own (Tw t (N + 70) :: R) s' := by
  obtain ⟨ys, s1, k1, k2, k3, k4⟩ := lc_inv (tg := gN 5) (fe := eCall m_law_pick [eVar 0, eVar 1, eLst nwF [eVar 5, eVar 5, eC (.str (mkS [43])), eCall m_law_level [eVar 0, eVar 1]]]) (ok := fun _ => True) (env := [some (sc ns), some (.obj t), some (.lst (lvs Q)), none, none, none]) (fun k s => Own (Tw t (N + 15 * k) :: R) s) (fun y => ∃ q, gw q = true ∧ y = .str (mkS q)) 4 (fun _ _ _ => trivial) (l := lvs Q) (n := 0) (s := s) (by rw [List.length_map]; omega) o
    (fun n s d hd hn hi => by
      obtain ⟨q, hq, rfl⟩ := List.mem_map.mp hd
      have hgq : gw q = true := by unfold gw; rw [hQ q hq, Bool.or_true]
      obtain ⟨l, s2, hl, j1, o2⟩ := ev_level ns (by omega) hi
      have hgl : gw l = true := by unfold gw; rw [hl, Bool.or_true]
      obtain ⟨x, hx, s3, j2, o3⟩ := ev_pick ns (l := [.str (mkS q), .str (mkS q), .str (mkS [43]), .str (mkS l)]) o2 (by omega) (by simp)
      refine ⟨_, rfl, x, s3, ?_, ?_, o3.more (by omega)⟩
      · simp only [fnOf, ev_seq, ev_asg, sBnd_def, ev_op, ev_un, bnd_def, ev_call, evs_cons, evs_nil, ev_var, ev_c, ev_if, ev_next, ev_expr, ev_tru, ev_bl, ev_and, ev_or, ev_not, ev_yes, ev_andE, ev_orE, ev_notE, ev_ifE, ev_chain, ofB_some, ofO_some, ofO_none, truD_non, truD_bl, truD_int, truD_str, truD_tup, truD_lst, truD_lsk, ev_tup, ev_lst, ev_nwF, ev_nwM, ev_meth, ev_make, ev_fld, ev_setF, ev_bm1, asQ_tup, asQ_lst, asQ_lsk, asL_lst, asL_lsk, dLen_tup, dLen_lst, dLen_lsk, dLen_str, dIx_tup, dIx_lst, dIx_lsk, dIx_str, dAdd_int, dNeg_int, isN_def, notN_def, isNon_non, isNon_int, isNon_bl, isNon_str, isNon_tup, isNon_lst, isNon_obj, isNon_exc, dEq_int, dNe_int, dEq_str, dNe_str, dEq_bl, atI_zero, atI_one, atI_2, atI_3, atI_4, atI_5, atI_6, atI_7, atI_8, atI_9, atI_10, atI_11, atI_12, atI_m1, ev_gT, setAll_nil, setAll_cons, iOp_int, ev_gN, ev_ret, List.map_cons, List.map_nil, List.length_cons, List.length_nil, rep_zero, rep_succ, List.cons_append, List.nil_append, List.getElem?_cons_zero, List.getElem?_cons_succ, List.set_cons_zero, List.set_cons_succ, Nat.sub_self, Nat.reduceAdd, Nat.reduceSub, Option.map_some, Option.bind_some, if_true, Bool.not_true, Bool.not_false, Bool.false_eq_true, if_false, decide_true, decide_false, Int.reduceBEq, Int.reduceEq, Int.reduceLT, Int.reduceLE, Int.reduceNeg, Int.reduceAdd, Int.reduceSub, Int.reduceMul, Int.reduceToNat, Nat.reduceLT, Nat.reduceLeDiff, beq_self_eq_true, reduceIte, eq_self, Int.reduceNe, Int.reduceBNe, not_true_eq_false, not_false_eq_true, true_and, and_true, true_or, or_true, false_or, or_false, and_false, false_and, decide_eq_true_eq, Bool.true_and, Bool.and_true, Bool.false_and, Bool.and_false, Bool.true_or, Bool.or_true, Bool.false_or, Bool.or_false, j1, j2]
      · simp only [List.mem_cons, List.not_mem_nil, or_false] at hx
        rcases hx with z | z | z | z
        · exact ⟨q, hgq, z⟩
        · exact ⟨q, hgq, z⟩
        · exact ⟨[43], by decide, z⟩
        · exact ⟨l, hgl, z⟩)
  obtain ⟨F, rfl, hF⟩ := lvs_of k4
  rw [List.length_map, List.length_map] at k3
  rw [List.length_map, Nat.zero_add] at k2
  have k2 := k2.more (show N + 15 * Q.length ≤ N + 60 by omega)
  have o2 := k2.new (.lst (lvs F))
  have u1 : u_law_wish_1 [some (sc ns), some (.obj t), some (.lst (lvs Q)), none, none, none] s = .fl (.nx [some (sc ns), some (.obj t), some (.lst (lvs Q)), some (.obj s1.length), none, none]) (s1 ++ [.lst (lvs F)]) := by
    unfold u_law_wish_1
    simp only [fnOf, ev_seq, ev_asg, sBnd_def, ev_op, ev_un, bnd_def, ev_call, evs_cons, evs_nil, ev_var, ev_c, ev_if, ev_next, ev_expr, ev_tru, ev_bl, ev_and, ev_or, ev_not, ev_yes, ev_andE, ev_orE, ev_notE, ev_ifE, ev_chain, ofB_some, ofO_some, ofO_none, truD_non, truD_bl, truD_int, truD_str, truD_tup, truD_lst, truD_lsk, ev_tup, ev_lst, ev_nwF, ev_nwM, ev_meth, ev_make, ev_fld, ev_setF, ev_bm1, asQ_tup, asQ_lst, asQ_lsk, asL_lst, asL_lsk, dLen_tup, dLen_lst, dLen_lsk, dLen_str, dIx_tup, dIx_lst, dIx_lsk, dIx_str, dAdd_int, dNeg_int, isN_def, notN_def, isNon_non, isNon_int, isNon_bl, isNon_str, isNon_tup, isNon_lst, isNon_obj, isNon_exc, dEq_int, dNe_int, dEq_str, dNe_str, dEq_bl, atI_zero, atI_one, atI_2, atI_3, atI_4, atI_5, atI_6, atI_7, atI_8, atI_9, atI_10, atI_11, atI_12, atI_m1, ev_gT, setAll_nil, setAll_cons, iOp_int, ev_gN, ev_ret, List.map_cons, List.map_nil, List.length_cons, List.length_nil, rep_zero, rep_succ, List.cons_append, List.nil_append, List.getElem?_cons_zero, List.getElem?_cons_succ, List.set_cons_zero, List.set_cons_succ, Nat.sub_self, Nat.reduceAdd, Nat.reduceSub, Option.map_some, Option.bind_some, if_true, Bool.not_true, Bool.not_false, Bool.false_eq_true, if_false, decide_true, decide_false, Int.reduceBEq, Int.reduceEq, Int.reduceLT, Int.reduceLE, Int.reduceNeg, Int.reduceAdd, Int.reduceSub, Int.reduceMul, Int.reduceToNat, Nat.reduceLT, Nat.reduceLeDiff, beq_self_eq_true, reduceIte, eq_self, Int.reduceNe, Int.reduceBNe, not_true_eq_false, not_false_eq_true, true_and, and_true, true_or, or_true, false_or, or_false, and_false, false_and, decide_eq_true_eq, Bool.true_and, Bool.and_true, Bool.false_and, Bool.and_false, Bool.true_or, Bool.or_true, Bool.false_or, Bool.or_false, ev_lc, ev_iSeq, wipeD_nil, wipeD_cons, bndN, t_plus, k1]
  obtain ⟨v, hv, s3, h3, o3⟩ := ev_draw ns (many := 3) (own2 o2) (by omega) (by decide)
  have hFne : F ≠ [] := fun z => by rw [z] at k3; simp at k3; omega
  -- the levels in the end
  obtain ⟨F2, s4, u2, o4, g1, g2, g3, g4⟩ : ∃ (F2 : List (List Nat)) (s4 : Sto), u_law_wish_2 [some (sc ns), some (.obj t), some (.lst (lvs Q)), some (.obj s1.length), none, none] (s1 ++ [.lst (lvs F)]) = .fl (.nx [some (sc ns), some (.obj t), some (.lst (lvs Q)), some (.obj s1.length), none, none]) s4 ∧ Own (At s1.length (.lst (lvs F2)) :: Tw t (N + 61) :: R) s4 ∧ F2 ≠ [] ∧ F2.length ≤ 4 ∧ (∀ p ∈ F2, 47 ∉ p ∧ p.length ≤ 12) ∧ ∀ p ∈ plain F2, gw p = true := by
    by_cases hz : v = 0
    · subst hz
      obtain ⟨ds, z, hd⟩ : ∃ ds z, F = ds ++ [z] := ⟨F.dropLast, F.getLast hFne, (List.dropLast_concat_getLast hFne).symm⟩
      have gg : s3[s1.length]? = some (.lst (lvs ds ++ [.str (mkS z)])) := by
        rw [(own2 o3).get, hd]
        simp
      have pa := putAt_last (v := .str (mkS [35])) gg
      have o5 := (own2 o3).set (.lst (lvs ds ++ [.str (mkS [35])]))
      have e2 : lvs ds ++ [.str (mkS [35])] = lvs (ds ++ [[35]]) := by simp
      rw [e2] at o5 pa
      have h3' : m_law_draw [sc ns, .obj t, .int 3] (s1 ++ [.lst (lvs F)]) = .ok (.int 0) s3 := h3
      refine ⟨ds ++ [[35]], _, ?_, o5, by simp, ?_, ?_, ?_⟩
      · unfold u_law_wish_2
        simp only [fnOf, ev_seq, ev_asg, sBnd_def, ev_op, ev_un, bnd_def, ev_call, evs_cons, evs_nil, ev_var, ev_c, ev_if, ev_next, ev_expr, ev_tru, ev_bl, ev_and, ev_or, ev_not, ev_yes, ev_andE, ev_orE, ev_notE, ev_ifE, ev_chain, ofB_some, ofO_some, ofO_none, truD_non, truD_bl, truD_int, truD_str, truD_tup, truD_lst, truD_lsk, ev_tup, ev_lst, ev_nwF, ev_nwM, ev_meth, ev_make, ev_fld, ev_setF, ev_bm1, asQ_tup, asQ_lst, asQ_lsk, asL_lst, asL_lsk, dLen_tup, dLen_lst, dLen_lsk, dLen_str, dIx_tup, dIx_lst, dIx_lsk, dIx_str, dAdd_int, dNeg_int, isN_def, notN_def, isNon_non, isNon_int, isNon_bl, isNon_str, isNon_tup, isNon_lst, isNon_obj, isNon_exc, dEq_int, dNe_int, dEq_str, dNe_str, dEq_bl, atI_zero, atI_one, atI_2, atI_3, atI_4, atI_5, atI_6, atI_7, atI_8, atI_9, atI_10, atI_11, atI_12, atI_m1, ev_gT, setAll_nil, setAll_cons, iOp_int, ev_gN, ev_ret, List.map_cons, List.map_nil, List.length_cons, List.length_nil, rep_zero, rep_succ, List.cons_append, List.nil_append, List.getElem?_cons_zero, List.getElem?_cons_succ, List.set_cons_zero, List.set_cons_succ, Nat.sub_self, Nat.reduceAdd, Nat.reduceSub, Option.map_some, Option.bind_some, if_true, Bool.not_true, Bool.not_false, Bool.false_eq_true, if_false, decide_true, decide_false, Int.reduceBEq, Int.reduceEq, Int.reduceLT, Int.reduceLE, Int.reduceNeg, Int.reduceAdd, Int.reduceSub, Int.reduceMul, Int.reduceToNat, Nat.reduceLT, Nat.reduceLeDiff, beq_self_eq_true, reduceIte, eq_self, Int.reduceNe, Int.reduceBNe, not_true_eq_false, not_false_eq_true, true_and, and_true, true_or, or_true, false_or, or_false, and_false, false_and, decide_eq_true_eq, Bool.true_and, Bool.and_true, Bool.false_and, Bool.and_false, Bool.true_or, Bool.or_true, Bool.false_or, Bool.or_false, h3', t_hash, ev_setI, pa]
      · rw [hd] at k3
        simp at k3 ⊢
        omega
      · intro p hp
        rcases List.mem_append.mp hp with hp | hp
        · have := hF p (by rw [hd]; exact List.mem_append_left _ hp)
          exact ⟨gw_free this, gw_len this⟩
        · rw [List.mem_singleton] at hp
          rw [hp]
          decide
      · intro p hp
        have e3 : plain (ds ++ [[35]]) = ds := by unfold plain; rw [if_pos (by simp)]; simp
        rw [e3] at hp
        exact hF p (by rw [hd]; exact List.mem_append_left _ hp)
    · have hb : ((v : Int) == 0) = false := by rw [beq_eq_false_iff_ne]; omega
      refine ⟨F, s3, ?_, own2 o3, hFne, by omega, fun p hp => ⟨gw_free (hF p hp), gw_len (hF p hp)⟩, fun p hp => ?_⟩
      · unfold u_law_wish_2
        simp only [fnOf, ev_seq, ev_asg, sBnd_def, ev_op, ev_un, bnd_def, ev_call, evs_cons, evs_nil, ev_var, ev_c, ev_if, ev_next, ev_expr, ev_tru, ev_bl, ev_and, ev_or, ev_not, ev_yes, ev_andE, ev_orE, ev_notE, ev_ifE, ev_chain, ofB_some, ofO_some, ofO_none, truD_non, truD_bl, truD_int, truD_str, truD_tup, truD_lst, truD_lsk, ev_tup, ev_lst, ev_nwF, ev_nwM, ev_meth, ev_make, ev_fld, ev_setF, ev_bm1, asQ_tup, asQ_lst, asQ_lsk, asL_lst, asL_lsk, dLen_tup, dLen_lst, dLen_lsk, dLen_str, dIx_tup, dIx_lst, dIx_lsk, dIx_str, dAdd_int, dNeg_int, isN_def, notN_def, isNon_non, isNon_int, isNon_bl, isNon_str, isNon_tup, isNon_lst, isNon_obj, isNon_exc, dEq_int, dNe_int, dEq_str, dNe_str, dEq_bl, atI_zero, atI_one, atI_2, atI_3, atI_4, atI_5, atI_6, atI_7, atI_8, atI_9, atI_10, atI_11, atI_12, atI_m1, ev_gT, setAll_nil, setAll_cons, iOp_int, ev_gN, ev_ret, List.map_cons, List.map_nil, List.length_cons, List.length_nil, rep_zero, rep_succ, List.cons_append, List.nil_append, List.getElem?_cons_zero, List.getElem?_cons_succ, List.set_cons_zero, List.set_cons_succ, Nat.sub_self, Nat.reduceAdd, Nat.reduceSub, Option.map_some, Option.bind_some, if_true, Bool.not_true, Bool.not_false, Bool.false_eq_true, if_false, decide_true, decide_false, Int.reduceBEq, Int.reduceEq, Int.reduceLT, Int.reduceLE, Int.reduceNeg, Int.reduceAdd, Int.reduceSub, Int.reduceMul, Int.reduceToNat, Nat.reduceLT, Nat.reduceLeDiff, beq_self_eq_true, reduceIte, eq_self, Int.reduceNe, Int.reduceBNe, not_true_eq_false, not_false_eq_true, true_and, and_true, true_or, or_true, false_or, or_false, and_false, false_and, decide_eq_true_eq, Bool.true_and, Bool.and_true, Bool.false_and, Bool.and_false, Bool.true_or, Bool.or_true, Bool.false_or, Bool.or_false, h3, hb]
      · have : p ∈ F := by
          unfold plain at hp
          split at hp
          · exact List.dropLast_subset _ hp
          · exact hp
        exact hF p this
  have dj : dJoin (.str (mkS [47])) (.obj s1.length) s4 = .ok (.str (mkS (TL.joinL [47] F2))) s4 := dJoin_lst (asQ_obj o4.get) (by
    have := sum_len12 (fun q hq => (g3 q hq).2)
    omega)
  have u3 : u_law_wish_3 [some (sc ns), some (.obj t), some (.lst (lvs Q)), some (.obj s1.length), none, none] s4 = .fl (.nx [some (sc ns), some (.obj t), some (.lst (lvs Q)), some (.obj s1.length), some (.str (mkS (TL.joinL [47] F2))), none]) s4 := by
    unfold u_law_wish_3
    simp only [fnOf, ev_seq, ev_asg, sBnd_def, ev_op, ev_un, bnd_def, ev_call, evs_cons, evs_nil, ev_var, ev_c, ev_if, ev_next, ev_expr, ev_tru, ev_bl, ev_and, ev_or, ev_not, ev_yes, ev_andE, ev_orE, ev_notE, ev_ifE, ev_chain, ofB_some, ofO_some, ofO_none, truD_non, truD_bl, truD_int, truD_str, truD_tup, truD_lst, truD_lsk, ev_tup, ev_lst, ev_nwF, ev_nwM, ev_meth, ev_make, ev_fld, ev_setF, ev_bm1, asQ_tup, asQ_lst, asQ_lsk, asL_lst, asL_lsk, dLen_tup, dLen_lst, dLen_lsk, dLen_str, dIx_tup, dIx_lst, dIx_lsk, dIx_str, dAdd_int, dNeg_int, isN_def, notN_def, isNon_non, isNon_int, isNon_bl, isNon_str, isNon_tup, isNon_lst, isNon_obj, isNon_exc, dEq_int, dNe_int, dEq_str, dNe_str, dEq_bl, atI_zero, atI_one, atI_2, atI_3, atI_4, atI_5, atI_6, atI_7, atI_8, atI_9, atI_10, atI_11, atI_12, atI_m1, ev_gT, setAll_nil, setAll_cons, iOp_int, ev_gN, ev_ret, List.map_cons, List.map_nil, List.length_cons, List.length_nil, rep_zero, rep_succ, List.cons_append, List.nil_append, List.getElem?_cons_zero, List.getElem?_cons_succ, List.set_cons_zero, List.set_cons_succ, Nat.sub_self, Nat.reduceAdd, Nat.reduceSub, Option.map_some, Option.bind_some, if_true, Bool.not_true, Bool.not_false, Bool.false_eq_true, if_false, decide_true, decide_false, Int.reduceBEq, Int.reduceEq, Int.reduceLT, Int.reduceLE, Int.reduceNeg, Int.reduceAdd, Int.reduceSub, Int.reduceMul, Int.reduceToNat, Nat.reduceLT, Nat.reduceLeDiff, beq_self_eq_true, reduceIte, eq_self, Int.reduceNe, Int.reduceBNe, not_true_eq_false, not_false_eq_true, true_and, and_true, true_or, or_true, false_or, or_false, and_false, false_and, decide_eq_true_eq, Bool.true_and, Bool.and_true, Bool.false_and, Bool.and_false, Bool.true_or, Bool.or_true, Bool.false_or, Bool.or_false, t_slash, isStr_str, dj]
  obtain ⟨m, hiw⟩ := ev_law_is_wish (TL.joinL [47] F2) s4
  have o5 := (o4.drop).app [m]
  by_cases hf : F2 = [[]]
  · subst hf
    have e0 : TL.joinL [47] [[]] = [] := rfl
    rw [e0] at hiw u3
    have e1 : isWish [] = false := by decide
    rw [e1] at hiw
    refine ⟨[43, 47], s4 ++ [m], ?_, by decide, o5.more (by omega)⟩
    have ad : ∀ s, dAdd nwF (.str (mkS [43, 47])) (.str (mkS [])) s = .ok (.str (mkS [43, 47])) s := fun s => by rw [str_obj]; rfl
    have u4 : u_law_wish_4 [some (sc ns), some (.obj t), some (.lst (lvs Q)), some (.obj s1.length), some (.str (mkS [])), none] s4 = .fl (.rt (.str (mkS [43, 47]))) (s4 ++ [m]) := by
      unfold u_law_wish_4
      simp only [fnOf, ev_seq, ev_asg, sBnd_def, ev_op, ev_un, bnd_def, ev_call, evs_cons, evs_nil, ev_var, ev_c, ev_if, ev_next, ev_expr, ev_tru, ev_bl, ev_and, ev_or, ev_not, ev_yes, ev_andE, ev_orE, ev_notE, ev_ifE, ev_chain, ofB_some, ofO_some, ofO_none, truD_non, truD_bl, truD_int, truD_str, truD_tup, truD_lst, truD_lsk, ev_tup, ev_lst, ev_nwF, ev_nwM, ev_meth, ev_make, ev_fld, ev_setF, ev_bm1, asQ_tup, asQ_lst, asQ_lsk, asL_lst, asL_lsk, dLen_tup, dLen_lst, dLen_lsk, dLen_str, dIx_tup, dIx_lst, dIx_lsk, dIx_str, dAdd_int, dNeg_int, isN_def, notN_def, isNon_non, isNon_int, isNon_bl, isNon_str, isNon_tup, isNon_lst, isNon_obj, isNon_exc, dEq_int, dNe_int, dEq_str, dNe_str, dEq_bl, atI_zero, atI_one, atI_2, atI_3, atI_4, atI_5, atI_6, atI_7, atI_8, atI_9, atI_10, atI_11, atI_12, atI_m1, ev_gT, setAll_nil, setAll_cons, iOp_int, ev_gN, ev_ret, List.map_cons, List.map_nil, List.length_cons, List.length_nil, rep_zero, rep_succ, List.cons_append, List.nil_append, List.getElem?_cons_zero, List.getElem?_cons_succ, List.set_cons_zero, List.set_cons_succ, Nat.sub_self, Nat.reduceAdd, Nat.reduceSub, Option.map_some, Option.bind_some, if_true, Bool.not_true, Bool.not_false, Bool.false_eq_true, if_false, decide_true, decide_false, Int.reduceBEq, Int.reduceEq, Int.reduceLT, Int.reduceLE, Int.reduceNeg, Int.reduceAdd, Int.reduceSub, Int.reduceMul, Int.reduceToNat, Nat.reduceLT, Nat.reduceLeDiff, beq_self_eq_true, reduceIte, eq_self, Int.reduceNe, Int.reduceBNe, not_true_eq_false, not_false_eq_true, true_and, and_true, true_or, or_true, false_or, or_false, and_false, false_and, decide_eq_true_eq, Bool.true_and, Bool.and_true, Bool.false_and, Bool.and_false, Bool.true_or, Bool.or_true, Bool.false_or, Bool.or_false, hiw, t_plsl, ad]
    unfold m_law_wish b_law_wish
    simp only [fnOf, ev_seq, ev_asg, sBnd_def, ev_op, ev_un, bnd_def, ev_call, evs_cons, evs_nil, ev_var, ev_c, ev_if, ev_next, ev_expr, ev_tru, ev_bl, ev_and, ev_or, ev_not, ev_yes, ev_andE, ev_orE, ev_notE, ev_ifE, ev_chain, ofB_some, ofO_some, ofO_none, truD_non, truD_bl, truD_int, truD_str, truD_tup, truD_lst, truD_lsk, ev_tup, ev_lst, ev_nwF, ev_nwM, ev_meth, ev_make, ev_fld, ev_setF, ev_bm1, asQ_tup, asQ_lst, asQ_lsk, asL_lst, asL_lsk, dLen_tup, dLen_lst, dLen_lsk, dLen_str, dIx_tup, dIx_lst, dIx_lsk, dIx_str, dAdd_int, dNeg_int, isN_def, notN_def, isNon_non, isNon_int, isNon_bl, isNon_str, isNon_tup, isNon_lst, isNon_obj, isNon_exc, dEq_int, dNe_int, dEq_str, dNe_str, dEq_bl, atI_zero, atI_one, atI_2, atI_3, atI_4, atI_5, atI_6, atI_7, atI_8, atI_9, atI_10, atI_11, atI_12, atI_m1, ev_gT, setAll_nil, setAll_cons, iOp_int, ev_gN, ev_ret, List.map_cons, List.map_nil, List.length_cons, List.length_nil, rep_zero, rep_succ, List.cons_append, List.nil_append, List.getElem?_cons_zero, List.getElem?_cons_succ, List.set_cons_zero, List.set_cons_succ, Nat.sub_self, Nat.reduceAdd, Nat.reduceSub, Option.map_some, Option.bind_some, if_true, Bool.not_true, Bool.not_false, Bool.false_eq_true, if_false, decide_true, decide_false, Int.reduceBEq, Int.reduceEq, Int.reduceLT, Int.reduceLE, Int.reduceNeg, Int.reduceAdd, Int.reduceSub, Int.reduceMul, Int.reduceToNat, Nat.reduceLT, Nat.reduceLeDiff, beq_self_eq_true, reduceIte, eq_self, Int.reduceNe, Int.reduceBNe, not_true_eq_false, not_false_eq_true, true_and, and_true, true_or, or_true, false_or, or_false, and_false, false_and, decide_eq_true_eq, Bool.true_and, Bool.and_true, Bool.false_and, Bool.and_false, Bool.true_or, Bool.or_true, Bool.false_or, Bool.or_false, u1, u2, u3, u4]
  · obtain ⟨w1, w2⟩ := wish_join g1 hf (by omega) (fun p hp => (g3 p hp).1) g4
    rw [w1] at hiw
    refine ⟨TL.joinL [47] F2, s4 ++ [m], ?_, w1, o5.more (by omega)⟩
    have u4 : u_law_wish_4 [some (sc ns), some (.obj t), some (.lst (lvs Q)), some (.obj s1.length), some (.str (mkS (TL.joinL [47] F2))), none] s4 = .fl (.rt (.str (mkS (TL.joinL [47] F2)))) (s4 ++ [m]) := by
      unfold u_law_wish_4
      simp only [fnOf, ev_seq, ev_asg, sBnd_def, ev_op, ev_un, bnd_def, ev_call, evs_cons, evs_nil, ev_var, ev_c, ev_if, ev_next, ev_expr, ev_tru, ev_bl, ev_and, ev_or, ev_not, ev_yes, ev_andE, ev_orE, ev_notE, ev_ifE, ev_chain, ofB_some, ofO_some, ofO_none, truD_non, truD_bl, truD_int, truD_str, truD_tup, truD_lst, truD_lsk, ev_tup, ev_lst, ev_nwF, ev_nwM, ev_meth, ev_make, ev_fld, ev_setF, ev_bm1, asQ_tup, asQ_lst, asQ_lsk, asL_lst, asL_lsk, dLen_tup, dLen_lst, dLen_lsk, dLen_str, dIx_tup, dIx_lst, dIx_lsk, dIx_str, dAdd_int, dNeg_int, isN_def, notN_def, isNon_non, isNon_int, isNon_bl, isNon_str, isNon_tup, isNon_lst, isNon_obj, isNon_exc, dEq_int, dNe_int, dEq_str, dNe_str, dEq_bl, atI_zero, atI_one, atI_2, atI_3, atI_4, atI_5, atI_6, atI_7, atI_8, atI_9, atI_10, atI_11, atI_12, atI_m1, ev_gT, setAll_nil, setAll_cons, iOp_int, ev_gN, ev_ret, List.map_cons, List.map_nil, List.length_cons, List.length_nil, rep_zero, rep_succ, List.cons_append, List.nil_append, List.getElem?_cons_zero, List.getElem?_cons_succ, List.set_cons_zero, List.set_cons_succ, Nat.sub_self, Nat.reduceAdd, Nat.reduceSub, Option.map_some, Option.bind_some, if_true, Bool.not_true, Bool.not_false, Bool.false_eq_true, if_false, decide_true, decide_false, Int.reduceBEq, Int.reduceEq, Int.reduceLT, Int.reduceLE, Int.reduceNeg, Int.reduceAdd, Int.reduceSub, Int.reduceMul, Int.reduceToNat, Nat.reduceLT, Nat.reduceLeDiff, beq_self_eq_true, reduceIte, eq_self, Int.reduceNe, Int.reduceBNe, not_true_eq_false, not_false_eq_true, true_and, and_true, true_or, or_true, false_or, or_false, and_false, false_and, decide_eq_true_eq, Bool.true_and, Bool.and_true, Bool.false_and, Bool.and_false, Bool.true_or, Bool.or_true, Bool.false_or, Bool.or_false, hiw]
    unfold m_law_wish b_law_wish
    simp only [fnOf, ev_seq, ev_asg, sBnd_def, ev_op, ev_un, bnd_def, ev_call, evs_cons, evs_nil, ev_var, ev_c, ev_if, ev_next, ev_expr, ev_tru, ev_bl, ev_and, ev_or, ev_not, ev_yes, ev_andE, ev_orE, ev_notE, ev_ifE, ev_chain, ofB_some, ofO_some, ofO_none, truD_non, truD_bl, truD_int, truD_str, truD_tup, truD_lst, truD_lsk, ev_tup, ev_lst, ev_nwF, ev_nwM, ev_meth, ev_make, ev_fld, ev_setF, ev_bm1, asQ_tup, asQ_lst, asQ_lsk, asL_lst, asL_lsk, dLen_tup, dLen_lst, dLen_lsk, dLen_str, dIx_tup, dIx_lst, dIx_lsk, dIx_str, dAdd_int, dNeg_int, isN_def, notN_def, isNon_non, isNon_int, isNon_bl, isNon_str, isNon_tup, isNon_lst, isNon_obj, isNon_exc, dEq_int, dNe_int, dEq_str, dNe_str, dEq_bl, atI_zero, atI_one, atI_2, atI_3, atI_4, atI_5, atI_6, atI_7, atI_8, atI_9, atI_10, atI_11, atI_12, atI_m1, ev_gT, setAll_nil, setAll_cons, iOp_int, ev_gN, ev_ret, List.map_cons, List.map_nil, List.length_cons, List.length_nil, rep_zero, rep_succ, List.cons_append, List.nil_append, List.getElem?_cons_zero, List.getElem?_cons_succ, List.set_cons_zero, List.set_cons_succ, Nat.sub_self, Nat.reduceAdd, Nat.reduceSub, Option.map_some, Option.bind_some, if_true, Bool.not_true, Bool.not_false, Bool.false_eq_true, if_false, decide_true, decide_false, Int.reduceBEq, Int.reduceEq, Int.reduceLT, Int.reduceLE, Int.reduceNeg, Int.reduceAdd, Int.reduceSub, Int.reduceMul, Int.reduceToNat, Nat.reduceLT, Nat.reduceLeDiff, beq_self_eq_true, reduceIte, eq_self, Int.reduceNe, Int.reduceBNe, not_true_eq_false, not_false_eq_true, true_and, and_true, true_or, or_true, false_or, or_false, and_false, false_and, decide_eq_true_eq, Bool.true_and, Bool.and_true, Bool.false_and, Bool.and_false, Bool.true_or, Bool.or_true, Bool.false_or, Bool.or_false, u1, u2, u3, u4]
end Tx
namespace Tx
open PySem L2 Pd
/-! ### the law -/
theorem bk_mono {bk M K : Nat} {rows : Rows} {R : List SP} {s : Sto} (h : M ≤ K) (o : Own (BkA bk rows M :: R) s) : Own (BkA bk rows K :: R) s := by
  obtain ⟨tp, rw, T, c, r, hrl, o1⟩ := own_bk.mp o
  exact own_bk.mpr ⟨tp, rw, T, c.mono h, r, by omega, o1⟩
theorem bk_at {bk N : Nat} {rows : Rows} {L L1 : List SP} {s : Sto} (o : Own L s) (h : Tk L (BkA bk rows N) L1) : ∃ fs, s[bk]? = some (.ins 1 fs) := by
  obtain ⟨tp, rw, T, c, r, hrl, o1⟩ := own_bk.mp (o.tk h)
  exact ⟨_, o1.get⟩
theorem bk_relT {bk N : Nat} {rows : Rows} {L L1 : List SP} {s : Sto} (o : Own L s) (h : Tk L (BkA bk rows N) L1) : (∃ T, Rel T rows) ∧ rows.length ≤ N := by
  obtain ⟨tp, rw, T, c, r, hrl, o1⟩ := own_bk.mp (o.tk h)
  exact ⟨⟨_, r⟩, hrl⟩
theorem t_d : Str.ofString "d" = mkS [100] := by decide +kernel
theorem t_szz : Str.ofString "/zz" = mkS [47, 122, 122] := by decide +kernel
abbrev abc (h : List Nat) : Prop := h = [97] ∨ h = [98] ∨ h = [99]
theorem abc_ok {h : List Nat} (k : abc h) : isHearer h = true ∧ h ≠ [100] := by
  rcases k with e | e | e <;> subst e <;> decide
structure TabOk (tb : Rows) : Prop where
  nd : (tb.map (·.1)).Nodup
  ok : ∀ h w g, ((h, w), g) ∈ tb → abc h ∧ isWish w = true ∧ 0 ≤ g ∧ g ≤ 2
theorem TabOk.put {tb : Rows} (k : TabOk tb) {h w : List Nat} {g : Int} (hh : abc h) (hw : isWish w = true) (hg : 0 ≤ g ∧ g ≤ 2) : TabOk (putA tb (h, w) g) := by
  refine ⟨put_nodup k.nd _ _, fun h' w' g' hm => ?_⟩
  have nd := put_nodup k.nd (h, w) g
  have e := (valA_mem nd).mpr hm
  rw [valA_put] at e
  split at e
  · rename_i z
    cases z
    cases e
    exact ⟨hh, hw, hg⟩
  · exact k.ok _ _ _ (valA_some e)
theorem splC_more (r : List Nat) (hr : splC 47 r = [r]) : ∀ l : List Nat, splC 47 (l ++ 47 :: r) = splC 47 l ++ [r]
  | [] => by rw [List.nil_append, splC_hit, hr]; rfl
  | x :: l => by
    have ih := splC_more r hr l
    by_cases h : x = 47
    · subst h
      rw [List.cons_append, splC_hit, splC_hit, ih]
      rfl
    · obtain ⟨p, t, e1, e2⟩ := splC_miss l h
      obtain ⟨p', t', e3, e4⟩ := splC_miss (l ++ 47 :: r) h
      rw [List.cons_append, e4, e2]
      rw [ih, e1] at e3
      simp only [List.cons_append, List.cons.injEq] at e3
      rw [← e3.1, ← e3.2]
      rfl
theorem name_more {l : List Nat} (hl : isName l = true) (h4 : (splC 47 l).length ≤ 7) : isName (l ++ [47, 122, 122]) = true ∧ (splC 47 (l ++ [47, 122, 122])).length = (splC 47 l).length + 1 := by
  have e : splC 47 (l ++ [47, 122, 122]) = splC 47 l ++ [[122, 122]] := splC_more [122, 122] (by decide) l
  obtain ⟨k1, k2⟩ := name_parts hl
  refine ⟨?_, by rw [e]; simp⟩
  unfold isName
  rw [e]
  have n : ((l ++ [47, 122, 122]) == []) = false := by rw [beq_eq_false_iff_ne]; simp
  rw [n, decide_eq_true (by simp; omega)]
  rw [List.all_append, List.all_eq_true.mpr k1]
  decide
theorem name_fits {l : List Nat} {M : Nat} (h4 : (splC 47 l).length ≤ 5) (hM : M < 7000) : (2 ^ ((splC 47 l).length + 2) - 1) * M < 900000 := by
  have h1 : 2 ^ ((splC 47 l).length + 2) ≤ 2 ^ 7 := Nat.pow_le_pow_right (by decide) (by omega)
  have h2 : (2 ^ ((splC 47 l).length + 2) - 1) * M ≤ 127 * M := Nat.mul_le_mul_right _ (by omega)
  omega
theorem name_not {l : List Nat} (h : isName l = true) : l ≠ [97, 47, 43] := fun e => by
  subst e
  exact absurd h (by decide)
theorem name_wish {l : List Nat} (h : isName l = true) : isWish l = true := by
  obtain ⟨k1, k2⟩ := name_parts h
  unfold isWish
  have n : (l == []) = false := by
    unfold isName at h
    simp only [Bool.and_eq_true, Bool.not_eq_true'] at h
    exact h.1.1
  rw [n, decide_eq_true k2]
  show (plain (splC 47 l)).all gw = true
  rw [List.all_eq_true]
  intro p hp
  have : p ∈ splC 47 l := by
    unfold plain at hp
    split at hp
    · exact List.dropLast_subset _ hp
    · exact hp
  unfold gw
  rw [k1 p this, Bool.or_true]
theorem splC_total : ∀ l : List Nat, l.length + 1 = ((splC 47 l).map (·.length)).sum + (splC 47 l).length
  | [] => rfl
  | x :: l => by
    have ih := splC_total l
    by_cases h : x = 47
    · subst h
      rw [splC_hit]
      simp only [List.map_cons, List.sum_cons, List.length_cons, List.length_nil]
      omega
    · obtain ⟨p, t, e1, e2⟩ := splC_miss l h
      rw [e2]
      rw [e1] at ih
      simp only [List.map_cons, List.sum_cons, List.length_cons] at ih ⊢
      omega
theorem name_len {l : List Nat} (h : isName l = true) : l.length ≤ 104 := by
  obtain ⟨k1, k2⟩ := name_parts h
  have := splC_total l
  have := sum_len12 (Q := splC 47 l) fun q hq => by have := k1 q hq; unfold gl at this; simp only [Bool.and_eq_true, decide_eq_true_eq] at this; exact this.1
  omega
/-- rows of a book by a table -/
structure Same (ro tb : Rows) (ks : List (List Nat × List Nat)) : Prop where
  v : ∀ k, valA ro k = if k ∈ ks then valA tb k else none
/-- .. with those of d beside -/
def dRows (name : List Nat) : Rows := putA (putA [] ([100], [97, 47, 43]) 2) ([100], name) 1
structure Beside (rt tb : Rows) (name : List Nat) (ks : List (List Nat × List Nat)) : Prop where
  v : ∀ k, valA rt k = if k.1 = [100] then valA (dRows name) k else if k ∈ ks then valA tb k else none
theorem Beside.leave {rt tb : Rows} {name : List Nat} (b : Beside rt tb name (tb.map (·.1))) (n1 : (rt.map (·.1)).Nodup) (k : TabOk tb) (hn : name ≠ [97, 47, 43]) : (rt.filter fun x => x.1.1 == [100]).length = 2 ∧ (rt.filter fun x => !(x.1.1 == [100])).Perm tb := by
  have dr : dRows name = [(([100], [97, 47, 43]), 2), (([100], name), 1)] := by
    unfold dRows
    rw [put_new (l := []) rfl, put_new]
    · rfl
    · rw [valA_none]
      simp
      exact hn
  have nd2 : ((dRows name).map (·.1)).Nodup := by
    rw [dr]
    simp
    exact fun e => hn e.symm
  constructor
  · have p : (rt.filter fun x => x.1.1 == [100]).Perm (dRows name) := by
      refine (List.perm_ext_iff_of_nodup ((nodup_of_keys n1).filter _) (nodup_of_keys nd2)).mpr fun x => ?_
      have e : x = (x.1, x.2) := rfl
      rw [List.mem_filter, e, ← valA_mem n1, ← valA_mem nd2, b.v]
      simp only [beq_iff_eq]
      constructor
      · rintro ⟨h1, h2⟩
        rw [if_pos h2] at h1
        exact h1
      · intro h
        have : x.1.1 = [100] := by
          have := valA_some h
          rw [dr] at this
          simp at this
          rcases this with z | z <;> rw [z.1]
        rw [if_pos this]
        exact ⟨h, this⟩
    rw [p.length_eq, dr]
    rfl
  · refine (List.perm_ext_iff_of_nodup ((nodup_of_keys n1).filter _) (nodup_of_keys k.nd)).mpr fun x => ?_
    have e : x = (x.1, x.2) := rfl
    rw [List.mem_filter, e, ← valA_mem n1, ← valA_mem k.nd, b.v]
    simp only [Bool.not_eq_true', beq_eq_false_iff_ne]
    constructor
    · rintro ⟨h1, h2⟩
      rw [if_neg h2] at h1
      split at h1
      · exact h1
      · cases h1
    · intro h
      have hm := valA_some h
      have h2 := (abc_ok (k.ok x.1.1 x.1.2 x.2 hm).1).2
      rw [if_neg h2, if_pos (List.mem_map.mpr ⟨_, hm, rfl⟩)]
      exact ⟨h, h2⟩
theorem Same.perm {ro tb : Rows} (b : Same ro tb (tb.map (·.1))) (n1 : (ro.map (·.1)).Nodup) (k : TabOk tb) : ro.Perm tb := by
  refine tab_perm n1 k.nd fun x => ?_
  rw [b.v]
  split
  · rfl
  · rename_i h
    exact (valA_none.mpr h).symm
theorem sort_keys (tb : Rows) : sortK keyL (tb.map fun x => kD x.1.1 x.1.2) = (sortK (fun x : (List Nat × List Nat) × Int => [kT x.1.1, kT x.1.2]) tb).map fun x => kD x.1.1 x.1.2 := by
  rw [sortK_map]
  congr 1
theorem ok_keys (tb : Rows) : sortOk (tb.map fun x => kD x.1.1 x.1.2) = true := by
  cases tb with
  | nil => rfl
  | cons a l =>
    rw [List.map_cons]
    simp only [sortOk, kD, mdD, keysL, keyD, Option.map_some, List.all_cons, okD, List.map_cons, List.map_nil, isI, decide_true, List.isEmpty_cons, Bool.not_false, Bool.and_true, Bool.true_and, List.all_map]
    rw [List.all_eq_true]
    intro x _
    simp [Function.comp, okD, keysL, keyD, isI]
end Tx
namespace Tx
open PySem L2 Pd
abbrev srt (tb : Rows) : Rows := sortK (fun x : (List Nat × List Nat) × Int => [kT x.1.1, kT x.1.2]) tb
theorem srt_mem {tb : Rows} {x : (List Nat × List Nat) × Int} : x ∈ srt tb ↔ x ∈ tb := (sortK_perm _ tb).mem_iff
abbrev kx (x : (List Nat × List Nat) × Int) : Dt := kD x.1.1 x.1.2
theorem dLen_tab {s : Sto} {tab : Nat} {rows : Rows} (h : s[tab]? = some (.dit (rowsD rows))) : dLen (.obj tab) s = .ok (.int rows.length) s := by
  simp only [dLen, lenD, h]
  unfold rowsD bothM
  rw [List.length_map]
  rfl
theorem law_true (ns : List Int) (_ : ns.length ≤ 63) : ∃ s, m_law [.lsk (ns.map .int)] [] = .ok (.bl true) s := by
  suffices h : WO (m_law [sc ns] []) (fun d _ => d = .bl true) noX by
    obtain ⟨d, s, e, rfl⟩ := wo_iff h
    exact ⟨s, e⟩
  unfold m_law b_law
  refine wf_fn ?_
  refine ws_step (by unfold u_law_1; simp only [fnOf, ev_seq, ev_asg, sBnd_def, ev_op, ev_un, bnd_def, ev_call, evs_cons, evs_nil, ev_var, ev_c, ev_if, ev_next, ev_expr, ev_tru, ev_bl, ev_and, ev_or, ev_not, ev_yes, ev_andE, ev_orE, ev_notE, ev_ifE, ev_chain, ofB_some, ofO_some, ofO_none, truD_non, truD_bl, truD_int, truD_str, truD_tup, truD_lst, truD_lsk, ev_tup, ev_lst, ev_nwF, ev_nwM, ev_meth, ev_make, ev_fld, ev_setF, ev_bm1, asQ_tup, asQ_lst, asQ_lsk, asL_lst, asL_lsk, dLen_tup, dLen_lst, dLen_lsk, dLen_str, dIx_tup, dIx_lst, dIx_lsk, dIx_str, dAdd_int, dNeg_int, isN_def, notN_def, isNon_non, isNon_int, isNon_bl, isNon_str, isNon_tup, isNon_lst, isNon_obj, isNon_exc, dEq_int, dNe_int, dEq_str, dNe_str, dEq_bl, atI_zero, atI_one, atI_2, atI_3, atI_4, atI_5, atI_6, atI_7, atI_8, atI_9, atI_10, atI_11, atI_12, atI_m1, ev_gT, setAll_nil, setAll_cons, iOp_int, ev_gN, ev_ret, List.map_cons, List.map_nil, List.length_cons, List.length_nil, rep_zero, rep_succ, List.cons_append, List.nil_append, List.getElem?_cons_zero, List.getElem?_cons_succ, List.set_cons_zero, List.set_cons_succ, Nat.sub_self, Nat.reduceAdd, Nat.reduceSub, Option.map_some, Option.bind_some, if_true, Bool.not_true, Bool.not_false, Bool.false_eq_true, if_false, decide_true, decide_false, Int.reduceBEq, Int.reduceEq, Int.reduceLT, Int.reduceLE, Int.reduceNeg, Int.reduceAdd, Int.reduceSub, Int.reduceMul, Int.reduceToNat, Nat.reduceLT, Nat.reduceLeDiff, beq_self_eq_true, reduceIte, eq_self, Int.reduceNe, Int.reduceBNe, not_true_eq_false, not_false_eq_true, true_and, and_true, true_or, or_true, false_or, or_false, and_false, false_and, decide_eq_true_eq, Bool.true_and, Bool.and_true, Bool.false_and, Bool.and_false, Bool.true_or, Bool.or_true, Bool.false_or, Bool.or_false, insD_at, isLst_at, asL_at, asQ_at, lstAt_at, trkL_at, truD_atS, dLen_at, dIx_at, isDic_at, setFD_at, isStr_str, isLst_lst, Option.isSome_some, Option.isSome_none, Option.isSome_map, ev_for, ev_lc, ev_iSeq, ev_iRange, ev_sl, evp_none, evp_some, dSl_tup, dSl_lst, wipeD_nil, wipeD_cons, ev_tryH, ev_setI, ev_raise, ev_dput, ev_dnewK, ev_dnewT, setS_cons, setS_nil, mkS_beq, mkS_len, dSplit_mk, signs_mk, List.isEmpty_nil, List.isEmpty_cons, List.length_map] <;> exact rfl) ?_
  have o : Own [Tw 0 0] [Mo.lst []] := own_tw.mpr ⟨0, Nat.le_refl _, (own_nil (s := [])).new (.lst [])⟩
  obtain ⟨v, hv, s1, h1, o⟩ := ev_draw ns (many := 4) o (by omega) (by decide)
  refine ws_seq ?_
  unfold u_law_2
  refine ws_set (we_lcW (f := fun (k : Nat) => Dt.int (k : Int)) (g := fun l => Dt.str (mkS l)) (fun pre bs s => Own [Tw 0 (1 + 14 * pre.length)] s ∧ bs.length = pre.length ∧ ∀ q ∈ bs, gl q = true) (l := List.range (v + 1)) (s0 := s1) (ok := fun _ => True) ?_ (fun _ _ _ _ => trivial) ⟨o, rfl, fun _ h => nomatch h⟩ ?_ ?_)
  · have hr : ((v + 1 : Nat) : Int) ≤ 16777216 ∧ -(2 ^ 62) ≤ ((v + 1 : Nat) : Int) := by omega
    have e0 : (1 : Int) + (v : Int) = ((v + 1 : Nat) : Int) := by omega
    simp only [fnOf, ev_seq, ev_asg, sBnd_def, ev_op, ev_un, bnd_def, ev_call, evs_cons, evs_nil, ev_var, ev_c, ev_if, ev_next, ev_expr, ev_tru, ev_bl, ev_and, ev_or, ev_not, ev_yes, ev_andE, ev_orE, ev_notE, ev_ifE, ev_chain, ofB_some, ofO_some, ofO_none, truD_non, truD_bl, truD_int, truD_str, truD_tup, truD_lst, truD_lsk, ev_tup, ev_lst, ev_nwF, ev_nwM, ev_meth, ev_make, ev_fld, ev_setF, ev_bm1, asQ_tup, asQ_lst, asQ_lsk, asL_lst, asL_lsk, dLen_tup, dLen_lst, dLen_lsk, dLen_str, dIx_tup, dIx_lst, dIx_lsk, dIx_str, dAdd_int, dNeg_int, isN_def, notN_def, isNon_non, isNon_int, isNon_bl, isNon_str, isNon_tup, isNon_lst, isNon_obj, isNon_exc, dEq_int, dNe_int, dEq_str, dNe_str, dEq_bl, atI_zero, atI_one, atI_2, atI_3, atI_4, atI_5, atI_6, atI_7, atI_8, atI_9, atI_10, atI_11, atI_12, atI_m1, ev_gT, setAll_nil, setAll_cons, iOp_int, ev_gN, ev_ret, List.map_cons, List.map_nil, List.length_cons, List.length_nil, rep_zero, rep_succ, List.cons_append, List.nil_append, List.getElem?_cons_zero, List.getElem?_cons_succ, List.set_cons_zero, List.set_cons_succ, Nat.sub_self, Nat.reduceAdd, Nat.reduceSub, Option.map_some, Option.bind_some, if_true, Bool.not_true, Bool.not_false, Bool.false_eq_true, if_false, decide_true, decide_false, Int.reduceBEq, Int.reduceEq, Int.reduceLT, Int.reduceLE, Int.reduceNeg, Int.reduceAdd, Int.reduceSub, Int.reduceMul, Int.reduceToNat, Nat.reduceLT, Nat.reduceLeDiff, beq_self_eq_true, reduceIte, eq_self, Int.reduceNe, Int.reduceBNe, not_true_eq_false, not_false_eq_true, true_and, and_true, true_or, or_true, false_or, or_false, and_false, false_and, decide_eq_true_eq, Bool.true_and, Bool.and_true, Bool.false_and, Bool.and_false, Bool.true_or, Bool.or_true, Bool.false_or, Bool.or_false, insD_at, isLst_at, asL_at, asQ_at, lstAt_at, trkL_at, truD_atS, dLen_at, dIx_at, isDic_at, setFD_at, isStr_str, isLst_lst, Option.isSome_some, Option.isSome_none, Option.isSome_map, ev_for, ev_lc, ev_iSeq, ev_iRange, ev_sl, evp_none, evp_some, dSl_tup, dSl_lst, wipeD_nil, wipeD_cons, ev_tryH, ev_setI, ev_raise, ev_dput, ev_dnewK, ev_dnewT, setS_cons, setS_nil, mkS_beq, mkS_len, dSplit_mk, signs_mk, List.isEmpty_nil, List.isEmpty_cons, List.length_map, h1, e0, hr, Int.toNat_natCast]
  · rintro pre a post bs s hall ⟨o, hb, hq⟩
    have hl := congrArg List.length hall
    rw [List.length_range, List.length_append, List.length_cons] at hl
    obtain ⟨l, s2, hgl, h2, o⟩ := ev_level ns (by omega) o
    refine ⟨_, rfl, we_ok (by simp only [fnOf, ev_seq, ev_asg, sBnd_def, ev_op, ev_un, bnd_def, ev_call, evs_cons, evs_nil, ev_var, ev_c, ev_if, ev_next, ev_expr, ev_tru, ev_bl, ev_and, ev_or, ev_not, ev_yes, ev_andE, ev_orE, ev_notE, ev_ifE, ev_chain, ofB_some, ofO_some, ofO_none, truD_non, truD_bl, truD_int, truD_str, truD_tup, truD_lst, truD_lsk, ev_tup, ev_lst, ev_nwF, ev_nwM, ev_meth, ev_make, ev_fld, ev_setF, ev_bm1, asQ_tup, asQ_lst, asQ_lsk, asL_lst, asL_lsk, dLen_tup, dLen_lst, dLen_lsk, dLen_str, dIx_tup, dIx_lst, dIx_lsk, dIx_str, dAdd_int, dNeg_int, isN_def, notN_def, isNon_non, isNon_int, isNon_bl, isNon_str, isNon_tup, isNon_lst, isNon_obj, isNon_exc, dEq_int, dNe_int, dEq_str, dNe_str, dEq_bl, atI_zero, atI_one, atI_2, atI_3, atI_4, atI_5, atI_6, atI_7, atI_8, atI_9, atI_10, atI_11, atI_12, atI_m1, ev_gT, setAll_nil, setAll_cons, iOp_int, ev_gN, ev_ret, List.map_cons, List.map_nil, List.length_cons, List.length_nil, rep_zero, rep_succ, List.cons_append, List.nil_append, List.getElem?_cons_zero, List.getElem?_cons_succ, List.set_cons_zero, List.set_cons_succ, Nat.sub_self, Nat.reduceAdd, Nat.reduceSub, Option.map_some, Option.bind_some, if_true, Bool.not_true, Bool.not_false, Bool.false_eq_true, if_false, decide_true, decide_false, Int.reduceBEq, Int.reduceEq, Int.reduceLT, Int.reduceLE, Int.reduceNeg, Int.reduceAdd, Int.reduceSub, Int.reduceMul, Int.reduceToNat, Nat.reduceLT, Nat.reduceLeDiff, beq_self_eq_true, reduceIte, eq_self, Int.reduceNe, Int.reduceBNe, not_true_eq_false, not_false_eq_true, true_and, and_true, true_or, or_true, false_or, or_false, and_false, false_and, decide_eq_true_eq, Bool.true_and, Bool.and_true, Bool.false_and, Bool.and_false, Bool.true_or, Bool.or_true, Bool.false_or, Bool.or_false, insD_at, isLst_at, asL_at, asQ_at, lstAt_at, trkL_at, truD_atS, dLen_at, dIx_at, isDic_at, setFD_at, isStr_str, isLst_lst, Option.isSome_some, Option.isSome_none, Option.isSome_map, ev_for, ev_lc, ev_iSeq, ev_iRange, ev_sl, evp_none, evp_some, dSl_tup, dSl_lst, wipeD_nil, wipeD_cons, ev_tryH, ev_setI, ev_raise, ev_dput, ev_dnewK, ev_dnewT, setS_cons, setS_nil, mkS_beq, mkS_len, dSplit_mk, signs_mk, List.isEmpty_nil, List.isEmpty_cons, List.length_map, h2] <;> exact rfl) ⟨l, rfl, ?_, by simp [hb], fun q hx => ?_⟩⟩
    · rw [List.length_append, List.length_singleton]
      exact o.more (by omega)
    · rcases List.mem_append.mp hx with hx | hx
      · exact hq q hx
      · rw [List.mem_singleton] at hx; rw [hx]; exact hgl
  rintro Q s2 ⟨o, hl, hQ⟩
  rw [List.length_range] at o hl
  have o := o.more (show 1 + 14 * (v + 1) ≤ 57 by omega)
  show WS _ _ _ _
  clear h1
  -- the name
  refine ws_seq ?_
  unfold u_law_3
  refine ws_set (we_mid (fun d s => ∃ name, isName name = true ∧ (splC 47 name).length ≤ 4 ∧ d = .str (mkS name) ∧ s = s2) ?_ ?_)
  · have dn : ∀ s, dNe (.lst (lvs Q)) (.lst [.str (mkS [])]) s = .ok (.bl (!(Q == [[]]))) s := fun s => dNe_lvs Q [[]] s
    have dj : ∀ s, dJoin (.str (mkS [47])) (.lst (lvs Q)) s = .ok (.str (mkS (TL.joinL [47] Q))) s := fun s => dJoin_lst rfl (by
      have := sum_len12 (Q := Q) fun q hq => by have := hQ q hq; unfold gl at this; simp only [Bool.and_eq_true, decide_eq_true_eq] at this; exact this.1
      omega)
    cases hq : (Q == [[]]) with
    | true => exact we_ok (by simp only [fnOf, ev_seq, ev_asg, sBnd_def, ev_op, ev_un, bnd_def, ev_call, evs_cons, evs_nil, ev_var, ev_c, ev_if, ev_next, ev_expr, ev_tru, ev_bl, ev_and, ev_or, ev_not, ev_yes, ev_andE, ev_orE, ev_notE, ev_ifE, ev_chain, ofB_some, ofO_some, ofO_none, truD_non, truD_bl, truD_int, truD_str, truD_tup, truD_lst, truD_lsk, ev_tup, ev_lst, ev_nwF, ev_nwM, ev_meth, ev_make, ev_fld, ev_setF, ev_bm1, asQ_tup, asQ_lst, asQ_lsk, asL_lst, asL_lsk, dLen_tup, dLen_lst, dLen_lsk, dLen_str, dIx_tup, dIx_lst, dIx_lsk, dIx_str, dAdd_int, dNeg_int, isN_def, notN_def, isNon_non, isNon_int, isNon_bl, isNon_str, isNon_tup, isNon_lst, isNon_obj, isNon_exc, dEq_int, dNe_int, dEq_str, dNe_str, dEq_bl, atI_zero, atI_one, atI_2, atI_3, atI_4, atI_5, atI_6, atI_7, atI_8, atI_9, atI_10, atI_11, atI_12, atI_m1, ev_gT, setAll_nil, setAll_cons, iOp_int, ev_gN, ev_ret, List.map_cons, List.map_nil, List.length_cons, List.length_nil, rep_zero, rep_succ, List.cons_append, List.nil_append, List.getElem?_cons_zero, List.getElem?_cons_succ, List.set_cons_zero, List.set_cons_succ, Nat.sub_self, Nat.reduceAdd, Nat.reduceSub, Option.map_some, Option.bind_some, if_true, Bool.not_true, Bool.not_false, Bool.false_eq_true, if_false, decide_true, decide_false, Int.reduceBEq, Int.reduceEq, Int.reduceLT, Int.reduceLE, Int.reduceNeg, Int.reduceAdd, Int.reduceSub, Int.reduceMul, Int.reduceToNat, Nat.reduceLT, Nat.reduceLeDiff, beq_self_eq_true, reduceIte, eq_self, Int.reduceNe, Int.reduceBNe, not_true_eq_false, not_false_eq_true, true_and, and_true, true_or, or_true, false_or, or_false, and_false, false_and, decide_eq_true_eq, Bool.true_and, Bool.and_true, Bool.false_and, Bool.and_false, Bool.true_or, Bool.or_true, Bool.false_or, Bool.or_false, insD_at, isLst_at, asL_at, asQ_at, lstAt_at, trkL_at, truD_atS, dLen_at, dIx_at, isDic_at, setFD_at, isStr_str, isLst_lst, Option.isSome_some, Option.isSome_none, Option.isSome_map, ev_for, ev_lc, ev_iSeq, ev_iRange, ev_sl, evp_none, evp_some, dSl_tup, dSl_lst, wipeD_nil, wipeD_cons, ev_tryH, ev_setI, ev_raise, ev_dput, ev_dnewK, ev_dnewT, setS_cons, setS_nil, mkS_beq, mkS_len, dSplit_mk, signs_mk, List.isEmpty_nil, List.isEmpty_cons, List.length_map, t_nil, dn, hq, t_a] <;> exact rfl) ⟨[97], by decide, by decide, rfl, rfl⟩
    | false =>
      have hq' : Q ≠ [[]] := by simpa using hq
      have hne : Q ≠ [] := fun e => by rw [e] at hl; simp at hl
      obtain ⟨k1, k2⟩ := name_join hne hq' hQ (by omega)
      exact we_ok (by simp only [fnOf, ev_seq, ev_asg, sBnd_def, ev_op, ev_un, bnd_def, ev_call, evs_cons, evs_nil, ev_var, ev_c, ev_if, ev_next, ev_expr, ev_tru, ev_bl, ev_and, ev_or, ev_not, ev_yes, ev_andE, ev_orE, ev_notE, ev_ifE, ev_chain, ofB_some, ofO_some, ofO_none, truD_non, truD_bl, truD_int, truD_str, truD_tup, truD_lst, truD_lsk, ev_tup, ev_lst, ev_nwF, ev_nwM, ev_meth, ev_make, ev_fld, ev_setF, ev_bm1, asQ_tup, asQ_lst, asQ_lsk, asL_lst, asL_lsk, dLen_tup, dLen_lst, dLen_lsk, dLen_str, dIx_tup, dIx_lst, dIx_lsk, dIx_str, dAdd_int, dNeg_int, isN_def, notN_def, isNon_non, isNon_int, isNon_bl, isNon_str, isNon_tup, isNon_lst, isNon_obj, isNon_exc, dEq_int, dNe_int, dEq_str, dNe_str, dEq_bl, atI_zero, atI_one, atI_2, atI_3, atI_4, atI_5, atI_6, atI_7, atI_8, atI_9, atI_10, atI_11, atI_12, atI_m1, ev_gT, setAll_nil, setAll_cons, iOp_int, ev_gN, ev_ret, List.map_cons, List.map_nil, List.length_cons, List.length_nil, rep_zero, rep_succ, List.cons_append, List.nil_append, List.getElem?_cons_zero, List.getElem?_cons_succ, List.set_cons_zero, List.set_cons_succ, Nat.sub_self, Nat.reduceAdd, Nat.reduceSub, Option.map_some, Option.bind_some, if_true, Bool.not_true, Bool.not_false, Bool.false_eq_true, if_false, decide_true, decide_false, Int.reduceBEq, Int.reduceEq, Int.reduceLT, Int.reduceLE, Int.reduceNeg, Int.reduceAdd, Int.reduceSub, Int.reduceMul, Int.reduceToNat, Nat.reduceLT, Nat.reduceLeDiff, beq_self_eq_true, reduceIte, eq_self, Int.reduceNe, Int.reduceBNe, not_true_eq_false, not_false_eq_true, true_and, and_true, true_or, or_true, false_or, or_false, and_false, false_and, decide_eq_true_eq, Bool.true_and, Bool.and_true, Bool.false_and, Bool.and_false, Bool.true_or, Bool.or_true, Bool.false_or, Bool.or_false, insD_at, isLst_at, asL_at, asQ_at, lstAt_at, trkL_at, truD_atS, dLen_at, dIx_at, isDic_at, setFD_at, isStr_str, isLst_lst, Option.isSome_some, Option.isSome_none, Option.isSome_map, ev_for, ev_lc, ev_iSeq, ev_iRange, ev_sl, evp_none, evp_some, dSl_tup, dSl_lst, wipeD_nil, wipeD_cons, ev_tryH, ev_setI, ev_raise, ev_dput, ev_dnewK, ev_dnewT, setS_cons, setS_nil, mkS_beq, mkS_len, dSplit_mk, signs_mk, List.isEmpty_nil, List.isEmpty_cons, List.length_map, t_nil, dn, hq, t_slash, dj] <;> exact rfl) ⟨TL.joinL [47] Q, k1, by rw [k2]; omega, rfl, rfl⟩
  rintro _ s2 ⟨name, hname, hn4, rfl, rfl⟩
  show WS _ _ _ _
  refine ws_step (by unfold u_law_4; simp only [fnOf, ev_seq, ev_asg, sBnd_def, ev_op, ev_un, bnd_def, ev_call, evs_cons, evs_nil, ev_var, ev_c, ev_if, ev_next, ev_expr, ev_tru, ev_bl, ev_and, ev_or, ev_not, ev_yes, ev_andE, ev_orE, ev_notE, ev_ifE, ev_chain, ofB_some, ofO_some, ofO_none, truD_non, truD_bl, truD_int, truD_str, truD_tup, truD_lst, truD_lsk, ev_tup, ev_lst, ev_nwF, ev_nwM, ev_meth, ev_make, ev_fld, ev_setF, ev_bm1, asQ_tup, asQ_lst, asQ_lsk, asL_lst, asL_lsk, dLen_tup, dLen_lst, dLen_lsk, dLen_str, dIx_tup, dIx_lst, dIx_lsk, dIx_str, dAdd_int, dNeg_int, isN_def, notN_def, isNon_non, isNon_int, isNon_bl, isNon_str, isNon_tup, isNon_lst, isNon_obj, isNon_exc, dEq_int, dNe_int, dEq_str, dNe_str, dEq_bl, atI_zero, atI_one, atI_2, atI_3, atI_4, atI_5, atI_6, atI_7, atI_8, atI_9, atI_10, atI_11, atI_12, atI_m1, ev_gT, setAll_nil, setAll_cons, iOp_int, ev_gN, ev_ret, List.map_cons, List.map_nil, List.length_cons, List.length_nil, rep_zero, rep_succ, List.cons_append, List.nil_append, List.getElem?_cons_zero, List.getElem?_cons_succ, List.set_cons_zero, List.set_cons_succ, Nat.sub_self, Nat.reduceAdd, Nat.reduceSub, Option.map_some, Option.bind_some, if_true, Bool.not_true, Bool.not_false, Bool.false_eq_true, if_false, decide_true, decide_false, Int.reduceBEq, Int.reduceEq, Int.reduceLT, Int.reduceLE, Int.reduceNeg, Int.reduceAdd, Int.reduceSub, Int.reduceMul, Int.reduceToNat, Nat.reduceLT, Nat.reduceLeDiff, beq_self_eq_true, reduceIte, eq_self, Int.reduceNe, Int.reduceBNe, not_true_eq_false, not_false_eq_true, true_and, and_true, true_or, or_true, false_or, or_false, and_false, false_and, decide_eq_true_eq, Bool.true_and, Bool.and_true, Bool.false_and, Bool.and_false, Bool.true_or, Bool.or_true, Bool.false_or, Bool.or_false, insD_at, isLst_at, asL_at, asQ_at, lstAt_at, trkL_at, truD_atS, dLen_at, dIx_at, isDic_at, setFD_at, isStr_str, isLst_lst, Option.isSome_some, Option.isSome_none, Option.isSome_map, ev_for, ev_lc, ev_iSeq, ev_iRange, ev_sl, evp_none, evp_some, dSl_tup, dSl_lst, wipeD_nil, wipeD_cons, ev_tryH, ev_setI, ev_raise, ev_dput, ev_dnewK, ev_dnewT, setS_cons, setS_nil, mkS_beq, mkS_len, dSplit_mk, signs_mk, List.isEmpty_nil, List.isEmpty_cons, List.length_map] <;> exact rfl) ?_
  have o := o.new (.dit [])
  generalize s2.length = T at o ⊢
  generalize s2 ++ [Mo.dit []] = s3 at o ⊢
  -- the table
  obtain ⟨v2, hv2, s4, h4, o⟩ := ev_draw ns (many := 15) ((Own.pm o (by repeat first | exact Pm.rfl | (apply Pm.cons; repeat first | exact Tk.hd | apply Tk.tl) | apply Pm.skip))) (by omega) (by decide)
  refine ws_seq ?_
  unfold u_law_5
  refine ws_range [5, 6] (fun k _ s => ∃ tb : Rows, TabOk tb ∧ tb.length ≤ k ∧ Own [Tw 0 (58 + 100 * k), At T (.dit (rowsD tb))] s) (n := v2) (s0 := s4) (by simp only [fnOf, ev_seq, ev_asg, sBnd_def, ev_op, ev_un, bnd_def, ev_call, evs_cons, evs_nil, ev_var, ev_c, ev_if, ev_next, ev_expr, ev_tru, ev_bl, ev_and, ev_or, ev_not, ev_yes, ev_andE, ev_orE, ev_notE, ev_ifE, ev_chain, ofB_some, ofO_some, ofO_none, truD_non, truD_bl, truD_int, truD_str, truD_tup, truD_lst, truD_lsk, ev_tup, ev_lst, ev_nwF, ev_nwM, ev_meth, ev_make, ev_fld, ev_setF, ev_bm1, asQ_tup, asQ_lst, asQ_lsk, asL_lst, asL_lsk, dLen_tup, dLen_lst, dLen_lsk, dLen_str, dIx_tup, dIx_lst, dIx_lsk, dIx_str, dAdd_int, dNeg_int, isN_def, notN_def, isNon_non, isNon_int, isNon_bl, isNon_str, isNon_tup, isNon_lst, isNon_obj, isNon_exc, dEq_int, dNe_int, dEq_str, dNe_str, dEq_bl, atI_zero, atI_one, atI_2, atI_3, atI_4, atI_5, atI_6, atI_7, atI_8, atI_9, atI_10, atI_11, atI_12, atI_m1, ev_gT, setAll_nil, setAll_cons, iOp_int, ev_gN, ev_ret, List.map_cons, List.map_nil, List.length_cons, List.length_nil, rep_zero, rep_succ, List.cons_append, List.nil_append, List.getElem?_cons_zero, List.getElem?_cons_succ, List.set_cons_zero, List.set_cons_succ, Nat.sub_self, Nat.reduceAdd, Nat.reduceSub, Option.map_some, Option.bind_some, if_true, Bool.not_true, Bool.not_false, Bool.false_eq_true, if_false, decide_true, decide_false, Int.reduceBEq, Int.reduceEq, Int.reduceLT, Int.reduceLE, Int.reduceNeg, Int.reduceAdd, Int.reduceSub, Int.reduceMul, Int.reduceToNat, Nat.reduceLT, Nat.reduceLeDiff, beq_self_eq_true, reduceIte, eq_self, Int.reduceNe, Int.reduceBNe, not_true_eq_false, not_false_eq_true, true_and, and_true, true_or, or_true, false_or, or_false, and_false, false_and, decide_eq_true_eq, Bool.true_and, Bool.and_true, Bool.false_and, Bool.and_false, Bool.true_or, Bool.or_true, Bool.false_or, Bool.or_false, insD_at, isLst_at, asL_at, asQ_at, lstAt_at, trkL_at, truD_atS, dLen_at, dIx_at, isDic_at, setFD_at, isStr_str, isLst_lst, Option.isSome_some, Option.isSome_none, Option.isSome_map, ev_for, ev_lc, ev_iSeq, ev_iRange, ev_sl, evp_none, evp_some, dSl_tup, dSl_lst, wipeD_nil, wipeD_cons, ev_tryH, ev_setI, ev_raise, ev_dput, ev_dnewK, ev_dnewT, setS_cons, setS_nil, mkS_beq, mkS_len, dSplit_mk, signs_mk, List.isEmpty_nil, List.isEmpty_cons, List.length_map, h4] <;> exact rfl) (by omega) rfl ⟨[], ⟨List.nodup_nil, fun _ _ _ h => nomatch h⟩, Nat.le_refl _, o⟩ ?_ ?_
  · rintro k xs s hk hx ⟨tb, ht, hlen, o⟩
    obtain ⟨a, b, rfl⟩ := len2 hx
    refine ⟨_, rfl, ?_⟩
    unfold l_law_1
    obtain ⟨x, hx, s1, h1, o⟩ := ev_pick ns (l := [.str (mkS [97]), .str (mkS [98]), .str (mkS [99])]) o (by omega) (by simp)
    obtain ⟨h, rfl, hh⟩ : ∃ h, x = .str (mkS h) ∧ abc h := by
      simp only [List.mem_cons, List.not_mem_nil, or_false] at hx
      rcases hx with z | z | z
      · exact ⟨_, z, .inl rfl⟩
      · exact ⟨_, z, .inr (.inl rfl)⟩
      · exact ⟨_, z, .inr (.inr rfl)⟩
    refine ws_step (by unfold w_law_1; simp only [fnOf, ev_seq, ev_asg, sBnd_def, ev_op, ev_un, bnd_def, ev_call, evs_cons, evs_nil, ev_var, ev_c, ev_if, ev_next, ev_expr, ev_tru, ev_bl, ev_and, ev_or, ev_not, ev_yes, ev_andE, ev_orE, ev_notE, ev_ifE, ev_chain, ofB_some, ofO_some, ofO_none, truD_non, truD_bl, truD_int, truD_str, truD_tup, truD_lst, truD_lsk, ev_tup, ev_lst, ev_nwF, ev_nwM, ev_meth, ev_make, ev_fld, ev_setF, ev_bm1, asQ_tup, asQ_lst, asQ_lsk, asL_lst, asL_lsk, dLen_tup, dLen_lst, dLen_lsk, dLen_str, dIx_tup, dIx_lst, dIx_lsk, dIx_str, dAdd_int, dNeg_int, isN_def, notN_def, isNon_non, isNon_int, isNon_bl, isNon_str, isNon_tup, isNon_lst, isNon_obj, isNon_exc, dEq_int, dNe_int, dEq_str, dNe_str, dEq_bl, atI_zero, atI_one, atI_2, atI_3, atI_4, atI_5, atI_6, atI_7, atI_8, atI_9, atI_10, atI_11, atI_12, atI_m1, ev_gT, setAll_nil, setAll_cons, iOp_int, ev_gN, ev_ret, List.map_cons, List.map_nil, List.length_cons, List.length_nil, rep_zero, rep_succ, List.cons_append, List.nil_append, List.getElem?_cons_zero, List.getElem?_cons_succ, List.set_cons_zero, List.set_cons_succ, Nat.sub_self, Nat.reduceAdd, Nat.reduceSub, Option.map_some, Option.bind_some, if_true, Bool.not_true, Bool.not_false, Bool.false_eq_true, if_false, decide_true, decide_false, Int.reduceBEq, Int.reduceEq, Int.reduceLT, Int.reduceLE, Int.reduceNeg, Int.reduceAdd, Int.reduceSub, Int.reduceMul, Int.reduceToNat, Nat.reduceLT, Nat.reduceLeDiff, beq_self_eq_true, reduceIte, eq_self, Int.reduceNe, Int.reduceBNe, not_true_eq_false, not_false_eq_true, true_and, and_true, true_or, or_true, false_or, or_false, and_false, false_and, decide_eq_true_eq, Bool.true_and, Bool.and_true, Bool.false_and, Bool.and_false, Bool.true_or, Bool.or_true, Bool.false_or, Bool.or_false, insD_at, isLst_at, asL_at, asQ_at, lstAt_at, trkL_at, truD_atS, dLen_at, dIx_at, isDic_at, setFD_at, isStr_str, isLst_lst, Option.isSome_some, Option.isSome_none, Option.isSome_map, ev_for, ev_lc, ev_iSeq, ev_iRange, ev_sl, evp_none, evp_some, dSl_tup, dSl_lst, wipeD_nil, wipeD_cons, ev_tryH, ev_setI, ev_raise, ev_dput, ev_dnewK, ev_dnewT, setS_cons, setS_nil, mkS_beq, mkS_len, dSplit_mk, signs_mk, List.isEmpty_nil, List.isEmpty_cons, List.length_map, t_a, t_b, t_c, h1] <;> exact rfl) ?_
    obtain ⟨g, hg, s2, h2, o⟩ := ev_draw ns (many := 3) o (by omega) (by decide)
    obtain ⟨w, s3, h3, hw, o⟩ := ev_lwish ns (Q := Q) (by omega) (by omega) hQ (by omega) o
    have d : dputD s3 (.obj T) (.tup [.str (mkS h), .str (mkS w)]) (.int (g : Int)) = _ := dp_row (own2 o).get (by omega)
    refine ws_nx (by unfold w_law_2; simp only [fnOf, ev_seq, ev_asg, sBnd_def, ev_op, ev_un, bnd_def, ev_call, evs_cons, evs_nil, ev_var, ev_c, ev_if, ev_next, ev_expr, ev_tru, ev_bl, ev_and, ev_or, ev_not, ev_yes, ev_andE, ev_orE, ev_notE, ev_ifE, ev_chain, ofB_some, ofO_some, ofO_none, truD_non, truD_bl, truD_int, truD_str, truD_tup, truD_lst, truD_lsk, ev_tup, ev_lst, ev_nwF, ev_nwM, ev_meth, ev_make, ev_fld, ev_setF, ev_bm1, asQ_tup, asQ_lst, asQ_lsk, asL_lst, asL_lsk, dLen_tup, dLen_lst, dLen_lsk, dLen_str, dIx_tup, dIx_lst, dIx_lsk, dIx_str, dAdd_int, dNeg_int, isN_def, notN_def, isNon_non, isNon_int, isNon_bl, isNon_str, isNon_tup, isNon_lst, isNon_obj, isNon_exc, dEq_int, dNe_int, dEq_str, dNe_str, dEq_bl, atI_zero, atI_one, atI_2, atI_3, atI_4, atI_5, atI_6, atI_7, atI_8, atI_9, atI_10, atI_11, atI_12, atI_m1, ev_gT, setAll_nil, setAll_cons, iOp_int, ev_gN, ev_ret, List.map_cons, List.map_nil, List.length_cons, List.length_nil, rep_zero, rep_succ, List.cons_append, List.nil_append, List.getElem?_cons_zero, List.getElem?_cons_succ, List.set_cons_zero, List.set_cons_succ, Nat.sub_self, Nat.reduceAdd, Nat.reduceSub, Option.map_some, Option.bind_some, if_true, Bool.not_true, Bool.not_false, Bool.false_eq_true, if_false, decide_true, decide_false, Int.reduceBEq, Int.reduceEq, Int.reduceLT, Int.reduceLE, Int.reduceNeg, Int.reduceAdd, Int.reduceSub, Int.reduceMul, Int.reduceToNat, Nat.reduceLT, Nat.reduceLeDiff, beq_self_eq_true, reduceIte, eq_self, Int.reduceNe, Int.reduceBNe, not_true_eq_false, not_false_eq_true, true_and, and_true, true_or, or_true, false_or, or_false, and_false, false_and, decide_eq_true_eq, Bool.true_and, Bool.and_true, Bool.false_and, Bool.and_false, Bool.true_or, Bool.or_true, Bool.false_or, Bool.or_false, insD_at, isLst_at, asL_at, asQ_at, lstAt_at, trkL_at, truD_atS, dLen_at, dIx_at, isDic_at, setFD_at, isStr_str, isLst_lst, Option.isSome_some, Option.isSome_none, Option.isSome_map, ev_for, ev_lc, ev_iSeq, ev_iRange, ev_sl, evp_none, evp_some, dSl_tup, dSl_lst, wipeD_nil, wipeD_cons, ev_tryH, ev_setI, ev_raise, ev_dput, ev_dnewK, ev_dnewT, setS_cons, setS_nil, mkS_beq, mkS_len, dSplit_mk, signs_mk, List.isEmpty_nil, List.isEmpty_cons, List.length_map, h2, h3, d] <;> exact rfl) ?_
    have hl := length_putA tb (h, w) (g : Int)
    exact ⟨[_, _], rfl, rfl, _, ht.put hh hw ⟨by omega, by omega⟩, by omega, (own2 ((own2 o).set _)).more (by omega)⟩
  rintro xs s hx ⟨tb, ht, hlen, o⟩
  obtain ⟨a5, a6, rfl⟩ := len2 hx
  show WS _ _ _ _
  have o := o.more (show 58 + 100 * v2 ≤ 1600 by omega)
  -- two books
  obtain ⟨s5, h5, o⟩ := bk_init o
  refine ws_step (by unfold u_law_6; simp only [fnOf, ev_seq, ev_asg, sBnd_def, ev_op, ev_un, bnd_def, ev_call, evs_cons, evs_nil, ev_var, ev_c, ev_if, ev_next, ev_expr, ev_tru, ev_bl, ev_and, ev_or, ev_not, ev_yes, ev_andE, ev_orE, ev_notE, ev_ifE, ev_chain, ofB_some, ofO_some, ofO_none, truD_non, truD_bl, truD_int, truD_str, truD_tup, truD_lst, truD_lsk, ev_tup, ev_lst, ev_nwF, ev_nwM, ev_meth, ev_make, ev_fld, ev_setF, ev_bm1, asQ_tup, asQ_lst, asQ_lsk, asL_lst, asL_lsk, dLen_tup, dLen_lst, dLen_lsk, dLen_str, dIx_tup, dIx_lst, dIx_lsk, dIx_str, dAdd_int, dNeg_int, isN_def, notN_def, isNon_non, isNon_int, isNon_bl, isNon_str, isNon_tup, isNon_lst, isNon_obj, isNon_exc, dEq_int, dNe_int, dEq_str, dNe_str, dEq_bl, atI_zero, atI_one, atI_2, atI_3, atI_4, atI_5, atI_6, atI_7, atI_8, atI_9, atI_10, atI_11, atI_12, atI_m1, ev_gT, setAll_nil, setAll_cons, iOp_int, ev_gN, ev_ret, List.map_cons, List.map_nil, List.length_cons, List.length_nil, rep_zero, rep_succ, List.cons_append, List.nil_append, List.getElem?_cons_zero, List.getElem?_cons_succ, List.set_cons_zero, List.set_cons_succ, Nat.sub_self, Nat.reduceAdd, Nat.reduceSub, Option.map_some, Option.bind_some, if_true, Bool.not_true, Bool.not_false, Bool.false_eq_true, if_false, decide_true, decide_false, Int.reduceBEq, Int.reduceEq, Int.reduceLT, Int.reduceLE, Int.reduceNeg, Int.reduceAdd, Int.reduceSub, Int.reduceMul, Int.reduceToNat, Nat.reduceLT, Nat.reduceLeDiff, beq_self_eq_true, reduceIte, eq_self, Int.reduceNe, Int.reduceBNe, not_true_eq_false, not_false_eq_true, true_and, and_true, true_or, or_true, false_or, or_false, and_false, false_and, decide_eq_true_eq, Bool.true_and, Bool.and_true, Bool.false_and, Bool.and_false, Bool.true_or, Bool.or_true, Bool.false_or, Bool.or_false, insD_at, isLst_at, asL_at, asQ_at, lstAt_at, trkL_at, truD_atS, dLen_at, dIx_at, isDic_at, setFD_at, isStr_str, isLst_lst, Option.isSome_some, Option.isSome_none, Option.isSome_map, ev_for, ev_lc, ev_iSeq, ev_iRange, ev_sl, evp_none, evp_some, dSl_tup, dSl_lst, wipeD_nil, wipeD_cons, ev_tryH, ev_setI, ev_raise, ev_dput, ev_dnewK, ev_dnewT, setS_cons, setS_nil, mkS_beq, mkS_len, dSplit_mk, signs_mk, List.isEmpty_nil, List.isEmpty_cons, List.length_map, h5] <;> exact rfl) ?_
  generalize s.length = B at o ⊢
  obtain ⟨s6, h6, o⟩ := bk_init o
  refine ws_step (by unfold u_law_7; simp only [fnOf, ev_seq, ev_asg, sBnd_def, ev_op, ev_un, bnd_def, ev_call, evs_cons, evs_nil, ev_var, ev_c, ev_if, ev_next, ev_expr, ev_tru, ev_bl, ev_and, ev_or, ev_not, ev_yes, ev_andE, ev_orE, ev_notE, ev_ifE, ev_chain, ofB_some, ofO_some, ofO_none, truD_non, truD_bl, truD_int, truD_str, truD_tup, truD_lst, truD_lsk, ev_tup, ev_lst, ev_nwF, ev_nwM, ev_meth, ev_make, ev_fld, ev_setF, ev_bm1, asQ_tup, asQ_lst, asQ_lsk, asL_lst, asL_lsk, dLen_tup, dLen_lst, dLen_lsk, dLen_str, dIx_tup, dIx_lst, dIx_lsk, dIx_str, dAdd_int, dNeg_int, isN_def, notN_def, isNon_non, isNon_int, isNon_bl, isNon_str, isNon_tup, isNon_lst, isNon_obj, isNon_exc, dEq_int, dNe_int, dEq_str, dNe_str, dEq_bl, atI_zero, atI_one, atI_2, atI_3, atI_4, atI_5, atI_6, atI_7, atI_8, atI_9, atI_10, atI_11, atI_12, atI_m1, ev_gT, setAll_nil, setAll_cons, iOp_int, ev_gN, ev_ret, List.map_cons, List.map_nil, List.length_cons, List.length_nil, rep_zero, rep_succ, List.cons_append, List.nil_append, List.getElem?_cons_zero, List.getElem?_cons_succ, List.set_cons_zero, List.set_cons_succ, Nat.sub_self, Nat.reduceAdd, Nat.reduceSub, Option.map_some, Option.bind_some, if_true, Bool.not_true, Bool.not_false, Bool.false_eq_true, if_false, decide_true, decide_false, Int.reduceBEq, Int.reduceEq, Int.reduceLT, Int.reduceLE, Int.reduceNeg, Int.reduceAdd, Int.reduceSub, Int.reduceMul, Int.reduceToNat, Nat.reduceLT, Nat.reduceLeDiff, beq_self_eq_true, reduceIte, eq_self, Int.reduceNe, Int.reduceBNe, not_true_eq_false, not_false_eq_true, true_and, and_true, true_or, or_true, false_or, or_false, and_false, false_and, decide_eq_true_eq, Bool.true_and, Bool.and_true, Bool.false_and, Bool.and_false, Bool.true_or, Bool.or_true, Bool.false_or, Bool.or_false, insD_at, isLst_at, asL_at, asQ_at, lstAt_at, trkL_at, truD_atS, dLen_at, dIx_at, isDic_at, setFD_at, isStr_str, isLst_lst, Option.isSome_some, Option.isSome_none, Option.isSome_map, ev_for, ev_lc, ev_iSeq, ev_iRange, ev_sl, evp_none, evp_some, dSl_tup, dSl_lst, wipeD_nil, wipeD_cons, ev_tryH, ev_setI, ev_raise, ev_dput, ev_dnewK, ev_dnewT, setS_cons, setS_nil, mkS_beq, mkS_len, dSplit_mk, signs_mk, List.isEmpty_nil, List.isEmpty_cons, List.length_map, h6] <;> exact rfl) ?_
  generalize s5.length = C at o ⊢
  have kk : keysOf s6 (.obj T) = some (tb.map kx) := by
    simp only [keysOf, (Own.at_ (i := T) o (by repeat first | exact Tk.hd | apply Tk.tl)), short_rows, if_true, keys_rows]
  have ks : dSortK nwF (.obj T) s6 = .ok (.lst ((srt tb).map kx)) s6 := by
    unfold dSortK
    rw [kk]
    simp only [ok_keys, if_true]
    rw [sort_keys]
    rfl
  refine ws_step (by unfold u_law_8; simp only [fnOf, ev_seq, ev_asg, sBnd_def, ev_op, ev_un, bnd_def, ev_call, evs_cons, evs_nil, ev_var, ev_c, ev_if, ev_next, ev_expr, ev_tru, ev_bl, ev_and, ev_or, ev_not, ev_yes, ev_andE, ev_orE, ev_notE, ev_ifE, ev_chain, ofB_some, ofO_some, ofO_none, truD_non, truD_bl, truD_int, truD_str, truD_tup, truD_lst, truD_lsk, ev_tup, ev_lst, ev_nwF, ev_nwM, ev_meth, ev_make, ev_fld, ev_setF, ev_bm1, asQ_tup, asQ_lst, asQ_lsk, asL_lst, asL_lsk, dLen_tup, dLen_lst, dLen_lsk, dLen_str, dIx_tup, dIx_lst, dIx_lsk, dIx_str, dAdd_int, dNeg_int, isN_def, notN_def, isNon_non, isNon_int, isNon_bl, isNon_str, isNon_tup, isNon_lst, isNon_obj, isNon_exc, dEq_int, dNe_int, dEq_str, dNe_str, dEq_bl, atI_zero, atI_one, atI_2, atI_3, atI_4, atI_5, atI_6, atI_7, atI_8, atI_9, atI_10, atI_11, atI_12, atI_m1, ev_gT, setAll_nil, setAll_cons, iOp_int, ev_gN, ev_ret, List.map_cons, List.map_nil, List.length_cons, List.length_nil, rep_zero, rep_succ, List.cons_append, List.nil_append, List.getElem?_cons_zero, List.getElem?_cons_succ, List.set_cons_zero, List.set_cons_succ, Nat.sub_self, Nat.reduceAdd, Nat.reduceSub, Option.map_some, Option.bind_some, if_true, Bool.not_true, Bool.not_false, Bool.false_eq_true, if_false, decide_true, decide_false, Int.reduceBEq, Int.reduceEq, Int.reduceLT, Int.reduceLE, Int.reduceNeg, Int.reduceAdd, Int.reduceSub, Int.reduceMul, Int.reduceToNat, Nat.reduceLT, Nat.reduceLeDiff, beq_self_eq_true, reduceIte, eq_self, Int.reduceNe, Int.reduceBNe, not_true_eq_false, not_false_eq_true, true_and, and_true, true_or, or_true, false_or, or_false, and_false, false_and, decide_eq_true_eq, Bool.true_and, Bool.and_true, Bool.false_and, Bool.and_false, Bool.true_or, Bool.or_true, Bool.false_or, Bool.or_false, insD_at, isLst_at, asL_at, asQ_at, lstAt_at, trkL_at, truD_atS, dLen_at, dIx_at, isDic_at, setFD_at, isStr_str, isLst_lst, Option.isSome_some, Option.isSome_none, Option.isSome_map, ev_for, ev_lc, ev_iSeq, ev_iRange, ev_sl, evp_none, evp_some, dSl_tup, dSl_lst, wipeD_nil, wipeD_cons, ev_tryH, ev_setI, ev_raise, ev_dput, ev_dnewK, ev_dnewT, setS_cons, setS_nil, mkS_beq, mkS_len, dSplit_mk, signs_mk, List.isEmpty_nil, List.isEmpty_cons, List.length_map, ks] <;> exact rfl) ?_
  -- the first book
  refine ws_seq ?_
  unfold u_law_9
  refine ws_for (f := kx) [10] (fun pre _ s => ∃ ro, Same ro tb (pre.map (·.1)) ∧ Own [BkA B ro (9 * pre.length), BkA C [] 0, Tw 0 1600, At T (.dit (rowsD tb))] s) (l := srt tb) (s0 := s6) (by simp only [fnOf, ev_seq, ev_asg, sBnd_def, ev_op, ev_un, bnd_def, ev_call, evs_cons, evs_nil, ev_var, ev_c, ev_if, ev_next, ev_expr, ev_tru, ev_bl, ev_and, ev_or, ev_not, ev_yes, ev_andE, ev_orE, ev_notE, ev_ifE, ev_chain, ofB_some, ofO_some, ofO_none, truD_non, truD_bl, truD_int, truD_str, truD_tup, truD_lst, truD_lsk, ev_tup, ev_lst, ev_nwF, ev_nwM, ev_meth, ev_make, ev_fld, ev_setF, ev_bm1, asQ_tup, asQ_lst, asQ_lsk, asL_lst, asL_lsk, dLen_tup, dLen_lst, dLen_lsk, dLen_str, dIx_tup, dIx_lst, dIx_lsk, dIx_str, dAdd_int, dNeg_int, isN_def, notN_def, isNon_non, isNon_int, isNon_bl, isNon_str, isNon_tup, isNon_lst, isNon_obj, isNon_exc, dEq_int, dNe_int, dEq_str, dNe_str, dEq_bl, atI_zero, atI_one, atI_2, atI_3, atI_4, atI_5, atI_6, atI_7, atI_8, atI_9, atI_10, atI_11, atI_12, atI_m1, ev_gT, setAll_nil, setAll_cons, iOp_int, ev_gN, ev_ret, List.map_cons, List.map_nil, List.length_cons, List.length_nil, rep_zero, rep_succ, List.cons_append, List.nil_append, List.getElem?_cons_zero, List.getElem?_cons_succ, List.set_cons_zero, List.set_cons_succ, Nat.sub_self, Nat.reduceAdd, Nat.reduceSub, Option.map_some, Option.bind_some, if_true, Bool.not_true, Bool.not_false, Bool.false_eq_true, if_false, decide_true, decide_false, Int.reduceBEq, Int.reduceEq, Int.reduceLT, Int.reduceLE, Int.reduceNeg, Int.reduceAdd, Int.reduceSub, Int.reduceMul, Int.reduceToNat, Nat.reduceLT, Nat.reduceLeDiff, beq_self_eq_true, reduceIte, eq_self, Int.reduceNe, Int.reduceBNe, not_true_eq_false, not_false_eq_true, true_and, and_true, true_or, or_true, false_or, or_false, and_false, false_and, decide_eq_true_eq, Bool.true_and, Bool.and_true, Bool.false_and, Bool.and_false, Bool.true_or, Bool.or_true, Bool.false_or, Bool.or_false, insD_at, isLst_at, asL_at, asQ_at, lstAt_at, trkL_at, truD_atS, dLen_at, dIx_at, isDic_at, setFD_at, isStr_str, isLst_lst, Option.isSome_some, Option.isSome_none, Option.isSome_map, ev_for, ev_lc, ev_iSeq, ev_iRange, ev_sl, evp_none, evp_some, dSl_tup, dSl_lst, wipeD_nil, wipeD_cons, ev_tryH, ev_setI, ev_raise, ev_dput, ev_dnewK, ev_dnewT, setS_cons, setS_nil, mkS_beq, mkS_len, dSplit_mk, signs_mk, List.isEmpty_nil, List.isEmpty_cons, List.length_map] <;> exact rfl) rfl ⟨[], ⟨fun k => by simp [valA]⟩, (Own.pm o (by repeat first | exact Pm.rfl | (apply Pm.cons; repeat first | exact Tk.hd | apply Tk.tl) | apply Pm.skip))⟩ ?_ ?_
  · rintro pre a post xs s hall hx ⟨ro, hs, o⟩
    obtain ⟨x, rfl⟩ := len1 hx
    have ha : a ∈ tb := srt_mem.mp (by rw [hall]; simp)
    have hlp : pre.length ≤ tb.length := by
      have := congrArg List.length hall
      rw [(sortK_perm _ tb).length_eq] at this
      simp at this
      omega
    obtain ⟨k1, k2, k3⟩ := ht.ok a.1.1 a.1.2 a.2 ha
    have hv := (valA_mem ht.nd).mpr ha
    have d := dg_row (h := a.1.1) (w := a.1.2) ((Own.at_ (i := T) o (by repeat first | exact Tk.hd | apply Tk.tl)))
    rw [hv] at d
    have d : dgetD s (.obj T) (.tup [.str (mkS a.1.1), .str (mkS a.1.2)]) = some (some (.int a.2)) := d
    obtain ⟨fs, i1⟩ := bk_at (bk := B) o (by repeat first | exact Tk.hd | apply Tk.tl)
    obtain ⟨s1, h1, o⟩ := ev_put (abc_ok k1).1 k2 k3 (by omega) o
    refine ⟨trivial, _, rfl, ?_⟩
    refine ws_nx (by unfold l_law_2; simp only [fnOf, ev_seq, ev_asg, sBnd_def, ev_op, ev_un, bnd_def, ev_call, evs_cons, evs_nil, ev_var, ev_c, ev_if, ev_next, ev_expr, ev_tru, ev_bl, ev_and, ev_or, ev_not, ev_yes, ev_andE, ev_orE, ev_notE, ev_ifE, ev_chain, ofB_some, ofO_some, ofO_none, truD_non, truD_bl, truD_int, truD_str, truD_tup, truD_lst, truD_lsk, ev_tup, ev_lst, ev_nwF, ev_nwM, ev_meth, ev_make, ev_fld, ev_setF, ev_bm1, asQ_tup, asQ_lst, asQ_lsk, asL_lst, asL_lsk, dLen_tup, dLen_lst, dLen_lsk, dLen_str, dIx_tup, dIx_lst, dIx_lsk, dIx_str, dAdd_int, dNeg_int, isN_def, notN_def, isNon_non, isNon_int, isNon_bl, isNon_str, isNon_tup, isNon_lst, isNon_obj, isNon_exc, dEq_int, dNe_int, dEq_str, dNe_str, dEq_bl, atI_zero, atI_one, atI_2, atI_3, atI_4, atI_5, atI_6, atI_7, atI_8, atI_9, atI_10, atI_11, atI_12, atI_m1, ev_gT, setAll_nil, setAll_cons, iOp_int, ev_gN, ev_ret, List.map_cons, List.map_nil, List.length_cons, List.length_nil, rep_zero, rep_succ, List.cons_append, List.nil_append, List.getElem?_cons_zero, List.getElem?_cons_succ, List.set_cons_zero, List.set_cons_succ, Nat.sub_self, Nat.reduceAdd, Nat.reduceSub, Option.map_some, Option.bind_some, if_true, Bool.not_true, Bool.not_false, Bool.false_eq_true, if_false, decide_true, decide_false, Int.reduceBEq, Int.reduceEq, Int.reduceLT, Int.reduceLE, Int.reduceNeg, Int.reduceAdd, Int.reduceSub, Int.reduceMul, Int.reduceToNat, Nat.reduceLT, Nat.reduceLeDiff, beq_self_eq_true, reduceIte, eq_self, Int.reduceNe, Int.reduceBNe, not_true_eq_false, not_false_eq_true, true_and, and_true, true_or, or_true, false_or, or_false, and_false, false_and, decide_eq_true_eq, Bool.true_and, Bool.and_true, Bool.false_and, Bool.and_false, Bool.true_or, Bool.or_true, Bool.false_or, Bool.or_false, insD_at, isLst_at, asL_at, asQ_at, lstAt_at, trkL_at, truD_atS, dLen_at, dIx_at, isDic_at, setFD_at, isStr_str, isLst_lst, Option.isSome_some, Option.isSome_none, Option.isSome_map, ev_for, ev_lc, ev_iSeq, ev_iRange, ev_sl, evp_none, evp_some, dSl_tup, dSl_lst, wipeD_nil, wipeD_cons, ev_tryH, ev_setI, ev_raise, ev_dput, ev_dnewK, ev_dnewT, setS_cons, setS_nil, mkS_beq, mkS_len, dSplit_mk, signs_mk, List.isEmpty_nil, List.isEmpty_cons, List.length_map, i1, dDget, d, h1] <;> exact rfl) ?_
    refine ⟨[_], rfl, rfl, _, ⟨fun k => ?_⟩, bk_mono (by rw [List.length_append, List.length_singleton]; omega) o⟩
    rw [valA_put, hs.v]
    simp only [List.map_append, List.mem_append, List.map_cons, List.map_nil, List.mem_singleton]
    by_cases e : a.1 = k
    · rw [if_pos e, ← e, if_pos (.inr rfl), hv]
    · have e' : ¬ k = a.1 := fun z => e z.symm
      simp only [e', or_false]
      rw [if_neg e]
  rintro xs s hx ⟨ro, hro, o⟩
  obtain ⟨a10, rfl⟩ := len1 hx
  refine ⟨trivial, ?_⟩
  show WS _ _ _ _
  have hro : Same ro tb (tb.map (·.1)) := ⟨fun k => by
    rw [hro.v]
    have : k ∈ (srt tb).map (·.1) ↔ k ∈ tb.map (·.1) := ((sortK_perm _ tb).map _).mem_iff
    simp only [this]⟩
  have o := bk_mono (K := 200) (by rw [(sortK_perm _ tb).length_eq]; omega) o
  -- the other one
  obtain ⟨fs, i1⟩ := bk_at (bk := C) o (by repeat first | exact Tk.hd | apply Tk.tl)
  obtain ⟨s7, h7, o⟩ := ev_put (h := [100]) (w := [97, 47, 43]) (g := 2) (by decide) (by decide) (by decide) (by omega) (own2 o)
  refine ws_step (by unfold u_law_10; simp only [fnOf, ev_seq, ev_asg, sBnd_def, ev_op, ev_un, bnd_def, ev_call, evs_cons, evs_nil, ev_var, ev_c, ev_if, ev_next, ev_expr, ev_tru, ev_bl, ev_and, ev_or, ev_not, ev_yes, ev_andE, ev_orE, ev_notE, ev_ifE, ev_chain, ofB_some, ofO_some, ofO_none, truD_non, truD_bl, truD_int, truD_str, truD_tup, truD_lst, truD_lsk, ev_tup, ev_lst, ev_nwF, ev_nwM, ev_meth, ev_make, ev_fld, ev_setF, ev_bm1, asQ_tup, asQ_lst, asQ_lsk, asL_lst, asL_lsk, dLen_tup, dLen_lst, dLen_lsk, dLen_str, dIx_tup, dIx_lst, dIx_lsk, dIx_str, dAdd_int, dNeg_int, isN_def, notN_def, isNon_non, isNon_int, isNon_bl, isNon_str, isNon_tup, isNon_lst, isNon_obj, isNon_exc, dEq_int, dNe_int, dEq_str, dNe_str, dEq_bl, atI_zero, atI_one, atI_2, atI_3, atI_4, atI_5, atI_6, atI_7, atI_8, atI_9, atI_10, atI_11, atI_12, atI_m1, ev_gT, setAll_nil, setAll_cons, iOp_int, ev_gN, ev_ret, List.map_cons, List.map_nil, List.length_cons, List.length_nil, rep_zero, rep_succ, List.cons_append, List.nil_append, List.getElem?_cons_zero, List.getElem?_cons_succ, List.set_cons_zero, List.set_cons_succ, Nat.sub_self, Nat.reduceAdd, Nat.reduceSub, Option.map_some, Option.bind_some, if_true, Bool.not_true, Bool.not_false, Bool.false_eq_true, if_false, decide_true, decide_false, Int.reduceBEq, Int.reduceEq, Int.reduceLT, Int.reduceLE, Int.reduceNeg, Int.reduceAdd, Int.reduceSub, Int.reduceMul, Int.reduceToNat, Nat.reduceLT, Nat.reduceLeDiff, beq_self_eq_true, reduceIte, eq_self, Int.reduceNe, Int.reduceBNe, not_true_eq_false, not_false_eq_true, true_and, and_true, true_or, or_true, false_or, or_false, and_false, false_and, decide_eq_true_eq, Bool.true_and, Bool.and_true, Bool.false_and, Bool.and_false, Bool.true_or, Bool.or_true, Bool.false_or, Bool.or_false, insD_at, isLst_at, asL_at, asQ_at, lstAt_at, trkL_at, truD_atS, dLen_at, dIx_at, isDic_at, setFD_at, isStr_str, isLst_lst, Option.isSome_some, Option.isSome_none, Option.isSome_map, ev_for, ev_lc, ev_iSeq, ev_iRange, ev_sl, evp_none, evp_some, dSl_tup, dSl_lst, wipeD_nil, wipeD_cons, ev_tryH, ev_setI, ev_raise, ev_dput, ev_dnewK, ev_dnewT, setS_cons, setS_nil, mkS_beq, mkS_len, dSplit_mk, signs_mk, List.isEmpty_nil, List.isEmpty_cons, List.length_map, i1, t_d, t_aspl, h7] <;> exact rfl) ?_
  obtain ⟨fs, i1⟩ := bk_at (bk := C) o (by repeat first | exact Tk.hd | apply Tk.tl)
  obtain ⟨s8, h8, o⟩ := ev_put (h := [100]) (w := name) (g := 1) (by decide) (name_wish hname) (by decide) (by omega) o
  refine ws_step (by unfold u_law_11; simp only [fnOf, ev_seq, ev_asg, sBnd_def, ev_op, ev_un, bnd_def, ev_call, evs_cons, evs_nil, ev_var, ev_c, ev_if, ev_next, ev_expr, ev_tru, ev_bl, ev_and, ev_or, ev_not, ev_yes, ev_andE, ev_orE, ev_notE, ev_ifE, ev_chain, ofB_some, ofO_some, ofO_none, truD_non, truD_bl, truD_int, truD_str, truD_tup, truD_lst, truD_lsk, ev_tup, ev_lst, ev_nwF, ev_nwM, ev_meth, ev_make, ev_fld, ev_setF, ev_bm1, asQ_tup, asQ_lst, asQ_lsk, asL_lst, asL_lsk, dLen_tup, dLen_lst, dLen_lsk, dLen_str, dIx_tup, dIx_lst, dIx_lsk, dIx_str, dAdd_int, dNeg_int, isN_def, notN_def, isNon_non, isNon_int, isNon_bl, isNon_str, isNon_tup, isNon_lst, isNon_obj, isNon_exc, dEq_int, dNe_int, dEq_str, dNe_str, dEq_bl, atI_zero, atI_one, atI_2, atI_3, atI_4, atI_5, atI_6, atI_7, atI_8, atI_9, atI_10, atI_11, atI_12, atI_m1, ev_gT, setAll_nil, setAll_cons, iOp_int, ev_gN, ev_ret, List.map_cons, List.map_nil, List.length_cons, List.length_nil, rep_zero, rep_succ, List.cons_append, List.nil_append, List.getElem?_cons_zero, List.getElem?_cons_succ, List.set_cons_zero, List.set_cons_succ, Nat.sub_self, Nat.reduceAdd, Nat.reduceSub, Option.map_some, Option.bind_some, if_true, Bool.not_true, Bool.not_false, Bool.false_eq_true, if_false, decide_true, decide_false, Int.reduceBEq, Int.reduceEq, Int.reduceLT, Int.reduceLE, Int.reduceNeg, Int.reduceAdd, Int.reduceSub, Int.reduceMul, Int.reduceToNat, Nat.reduceLT, Nat.reduceLeDiff, beq_self_eq_true, reduceIte, eq_self, Int.reduceNe, Int.reduceBNe, not_true_eq_false, not_false_eq_true, true_and, and_true, true_or, or_true, false_or, or_false, and_false, false_and, decide_eq_true_eq, Bool.true_and, Bool.and_true, Bool.false_and, Bool.and_false, Bool.true_or, Bool.or_true, Bool.false_or, Bool.or_false, insD_at, isLst_at, asL_at, asQ_at, lstAt_at, trkL_at, truD_atS, dLen_at, dIx_at, isDic_at, setFD_at, isStr_str, isLst_lst, Option.isSome_some, Option.isSome_none, Option.isSome_map, ev_for, ev_lc, ev_iSeq, ev_iRange, ev_sl, evp_none, evp_some, dSl_tup, dSl_lst, wipeD_nil, wipeD_cons, ev_tryH, ev_setI, ev_raise, ev_dput, ev_dnewK, ev_dnewT, setS_cons, setS_nil, mkS_beq, mkS_len, dSplit_mk, signs_mk, List.isEmpty_nil, List.isEmpty_cons, List.length_map, i1, t_d, h8] <;> exact rfl) ?_
  obtain ⟨ct, hat, s9, h9, o⟩ := ev_draw ns (many := (((srt tb).length + 1 : Nat) : Int)) ((Own.pm o (by repeat first | exact Pm.rfl | (apply Pm.cons; repeat first | exact Tk.hd | apply Tk.tl) | apply Pm.skip))) (by omega) (by omega)
  have el : (((srt tb).map kx).length : Int) + 1 = (((srt tb).length + 1 : Nat) : Int) := by rw [List.length_map]; omega
  have el' : ((srt tb).length : Int) + 1 = (((srt tb).length + 1 : Nat) : Int) := by omega
  refine ws_step (by unfold u_law_12; simp only [fnOf, ev_seq, ev_asg, sBnd_def, ev_op, ev_un, bnd_def, ev_call, evs_cons, evs_nil, ev_var, ev_c, ev_if, ev_next, ev_expr, ev_tru, ev_bl, ev_and, ev_or, ev_not, ev_yes, ev_andE, ev_orE, ev_notE, ev_ifE, ev_chain, ofB_some, ofO_some, ofO_none, truD_non, truD_bl, truD_int, truD_str, truD_tup, truD_lst, truD_lsk, ev_tup, ev_lst, ev_nwF, ev_nwM, ev_meth, ev_make, ev_fld, ev_setF, ev_bm1, asQ_tup, asQ_lst, asQ_lsk, asL_lst, asL_lsk, dLen_tup, dLen_lst, dLen_lsk, dLen_str, dIx_tup, dIx_lst, dIx_lsk, dIx_str, dAdd_int, dNeg_int, isN_def, notN_def, isNon_non, isNon_int, isNon_bl, isNon_str, isNon_tup, isNon_lst, isNon_obj, isNon_exc, dEq_int, dNe_int, dEq_str, dNe_str, dEq_bl, atI_zero, atI_one, atI_2, atI_3, atI_4, atI_5, atI_6, atI_7, atI_8, atI_9, atI_10, atI_11, atI_12, atI_m1, ev_gT, setAll_nil, setAll_cons, iOp_int, ev_gN, ev_ret, List.map_cons, List.map_nil, List.length_cons, List.length_nil, rep_zero, rep_succ, List.cons_append, List.nil_append, List.getElem?_cons_zero, List.getElem?_cons_succ, List.set_cons_zero, List.set_cons_succ, Nat.sub_self, Nat.reduceAdd, Nat.reduceSub, Option.map_some, Option.bind_some, if_true, Bool.not_true, Bool.not_false, Bool.false_eq_true, if_false, decide_true, decide_false, Int.reduceBEq, Int.reduceEq, Int.reduceLT, Int.reduceLE, Int.reduceNeg, Int.reduceAdd, Int.reduceSub, Int.reduceMul, Int.reduceToNat, Nat.reduceLT, Nat.reduceLeDiff, beq_self_eq_true, reduceIte, eq_self, Int.reduceNe, Int.reduceBNe, not_true_eq_false, not_false_eq_true, true_and, and_true, true_or, or_true, false_or, or_false, and_false, false_and, decide_eq_true_eq, Bool.true_and, Bool.and_true, Bool.false_and, Bool.and_false, Bool.true_or, Bool.or_true, Bool.false_or, Bool.or_false, insD_at, isLst_at, asL_at, asQ_at, lstAt_at, trkL_at, truD_atS, dLen_at, dIx_at, isDic_at, setFD_at, isStr_str, isLst_lst, Option.isSome_some, Option.isSome_none, Option.isSome_map, ev_for, ev_lc, ev_iSeq, ev_iRange, ev_sl, evp_none, evp_some, dSl_tup, dSl_lst, wipeD_nil, wipeD_cons, ev_tryH, ev_setI, ev_raise, ev_dput, ev_dnewK, ev_dnewT, setS_cons, setS_nil, mkS_beq, mkS_len, dSplit_mk, signs_mk, List.isEmpty_nil, List.isEmpty_cons, List.length_map, el, el', h9] <;> exact rfl) ?_
  have hlt : (srt tb).length = tb.length := (sortK_perm _ tb).length_eq
  have hperm : (((srt tb).drop ct).reverse ++ (srt tb).take ct).Perm tb := by
    refine ((List.reverse_perm _).append_right _).trans ?_
    refine List.perm_append_comm.trans ?_
    rw [List.take_append_drop]
    exact sortK_perm _ tb
  refine ws_seq ?_
  unfold u_law_13
  refine ws_for (f := kx) [10, 12] (fun pre _ s => ∃ rt, Beside rt tb name (pre.map (·.1)) ∧ Own [BkA C rt (18 + 27 * pre.length), BkA B ro 200, Tw 0 (1601 + 70 * pre.length), At T (.dit (rowsD tb))] s) (l := ((srt tb).drop ct).reverse ++ (srt tb).take ct) (ok := fun _ => True) (s0 := s9) ?_ rfl ⟨_, ⟨fun k => ?_⟩, (Own.pm o (by repeat first | exact Pm.rfl | (apply Pm.cons; repeat first | exact Tk.hd | apply Tk.tl) | apply Pm.skip))⟩ ?_ ?_
  · have e1 : cutD ((srt tb).map kx) (some (ct : Int)) none = ((srt tb).drop ct).map kx := by rw [cut_drop, List.map_drop]
    have e2 : cutD ((srt tb).map kx) none (some (ct : Int)) = ((srt tb).take ct).map kx := by rw [cut_take, List.map_take]
    have e3 : dAdd nwF (.lst (((srt tb).drop ct).map kx).reverse) (.lst (((srt tb).take ct).map kx)) s9 = .ok (.lst ((((srt tb).drop ct).reverse ++ (srt tb).take ct).map kx)) s9 := by
      rw [dAdd_any rfl rfl (by simp only [List.length_reverse, List.length_map, List.length_drop, List.length_take]; omega), ev_nwF, List.map_append, List.map_reverse]
    simp only [fnOf, ev_seq, ev_asg, sBnd_def, ev_op, ev_un, bnd_def, ev_call, evs_cons, evs_nil, ev_var, ev_c, ev_if, ev_next, ev_expr, ev_tru, ev_bl, ev_and, ev_or, ev_not, ev_yes, ev_andE, ev_orE, ev_notE, ev_ifE, ev_chain, ofB_some, ofO_some, ofO_none, truD_non, truD_bl, truD_int, truD_str, truD_tup, truD_lst, truD_lsk, ev_tup, ev_lst, ev_nwF, ev_nwM, ev_meth, ev_make, ev_fld, ev_setF, ev_bm1, asQ_tup, asQ_lst, asQ_lsk, asL_lst, asL_lsk, dLen_tup, dLen_lst, dLen_lsk, dLen_str, dIx_tup, dIx_lst, dIx_lsk, dIx_str, dAdd_int, dNeg_int, isN_def, notN_def, isNon_non, isNon_int, isNon_bl, isNon_str, isNon_tup, isNon_lst, isNon_obj, isNon_exc, dEq_int, dNe_int, dEq_str, dNe_str, dEq_bl, atI_zero, atI_one, atI_2, atI_3, atI_4, atI_5, atI_6, atI_7, atI_8, atI_9, atI_10, atI_11, atI_12, atI_m1, ev_gT, setAll_nil, setAll_cons, iOp_int, ev_gN, ev_ret, List.map_cons, List.map_nil, List.length_cons, List.length_nil, rep_zero, rep_succ, List.cons_append, List.nil_append, List.getElem?_cons_zero, List.getElem?_cons_succ, List.set_cons_zero, List.set_cons_succ, Nat.sub_self, Nat.reduceAdd, Nat.reduceSub, Option.map_some, Option.bind_some, if_true, Bool.not_true, Bool.not_false, Bool.false_eq_true, if_false, decide_true, decide_false, Int.reduceBEq, Int.reduceEq, Int.reduceLT, Int.reduceLE, Int.reduceNeg, Int.reduceAdd, Int.reduceSub, Int.reduceMul, Int.reduceToNat, Nat.reduceLT, Nat.reduceLeDiff, beq_self_eq_true, reduceIte, eq_self, Int.reduceNe, Int.reduceBNe, not_true_eq_false, not_false_eq_true, true_and, and_true, true_or, or_true, false_or, or_false, and_false, false_and, decide_eq_true_eq, Bool.true_and, Bool.and_true, Bool.false_and, Bool.and_false, Bool.true_or, Bool.or_true, Bool.false_or, Bool.or_false, insD_at, isLst_at, asL_at, asQ_at, lstAt_at, trkL_at, truD_atS, dLen_at, dIx_at, isDic_at, setFD_at, isStr_str, isLst_lst, Option.isSome_some, Option.isSome_none, Option.isSome_map, ev_for, ev_lc, ev_iSeq, ev_iRange, ev_sl, evp_none, evp_some, dSl_tup, dSl_lst, wipeD_nil, wipeD_cons, ev_tryH, ev_setI, ev_raise, ev_dput, ev_dnewK, ev_dnewT, setS_cons, setS_nil, mkS_beq, mkS_len, dSplit_mk, signs_mk, List.isEmpty_nil, List.isEmpty_cons, List.length_map, e1, e2, dRev, e3] <;> exact rfl
  · show valA (dRows name) k = _
    split
    · rfl
    · rename_i h
      have e1 : ([100], name) ≠ k := fun z => h (by rw [← z])
      have e2 : ([100], [97, 47, 43]) ≠ k := fun z => h (by rw [← z])
      unfold dRows
      rw [valA_put, valA_put, if_neg e1, if_neg e2]
      simp [valA]
  · rintro pre a post xs s hall hx ⟨rt, hb, o⟩
    obtain ⟨x, y, rfl⟩ := len2 hx
    have ha : a ∈ tb := hperm.mem_iff.mp (by rw [hall]; simp)
    have hlp : pre.length ≤ tb.length := by
      have := congrArg List.length hall
      rw [hperm.length_eq] at this
      simp at this
      omega
    obtain ⟨k1, k2, k3⟩ := ht.ok a.1.1 a.1.2 a.2 ha
    have hv := (valA_mem ht.nd).mpr ha
    refine ⟨trivial, _, rfl, ?_⟩
    unfold l_law_3
    have o : Own (Tw 0 (1601 + 70 * pre.length) :: _) s := (Own.pm o (by repeat first | exact Pm.rfl | (apply Pm.cons; repeat first | exact Tk.hd | apply Tk.tl) | apply Pm.skip))
    obtain ⟨w, s1, h1, hw, o⟩ := ev_lwish ns (Q := Q) (by omega) (by omega) hQ (by omega) o
    refine ws_step (by unfold w_law_3; simp only [fnOf, ev_seq, ev_asg, sBnd_def, ev_op, ev_un, bnd_def, ev_call, evs_cons, evs_nil, ev_var, ev_c, ev_if, ev_next, ev_expr, ev_tru, ev_bl, ev_and, ev_or, ev_not, ev_yes, ev_andE, ev_orE, ev_notE, ev_ifE, ev_chain, ofB_some, ofO_some, ofO_none, truD_non, truD_bl, truD_int, truD_str, truD_tup, truD_lst, truD_lsk, ev_tup, ev_lst, ev_nwF, ev_nwM, ev_meth, ev_make, ev_fld, ev_setF, ev_bm1, asQ_tup, asQ_lst, asQ_lsk, asL_lst, asL_lsk, dLen_tup, dLen_lst, dLen_lsk, dLen_str, dIx_tup, dIx_lst, dIx_lsk, dIx_str, dAdd_int, dNeg_int, isN_def, notN_def, isNon_non, isNon_int, isNon_bl, isNon_str, isNon_tup, isNon_lst, isNon_obj, isNon_exc, dEq_int, dNe_int, dEq_str, dNe_str, dEq_bl, atI_zero, atI_one, atI_2, atI_3, atI_4, atI_5, atI_6, atI_7, atI_8, atI_9, atI_10, atI_11, atI_12, atI_m1, ev_gT, setAll_nil, setAll_cons, iOp_int, ev_gN, ev_ret, List.map_cons, List.map_nil, List.length_cons, List.length_nil, rep_zero, rep_succ, List.cons_append, List.nil_append, List.getElem?_cons_zero, List.getElem?_cons_succ, List.set_cons_zero, List.set_cons_succ, Nat.sub_self, Nat.reduceAdd, Nat.reduceSub, Option.map_some, Option.bind_some, if_true, Bool.not_true, Bool.not_false, Bool.false_eq_true, if_false, decide_true, decide_false, Int.reduceBEq, Int.reduceEq, Int.reduceLT, Int.reduceLE, Int.reduceNeg, Int.reduceAdd, Int.reduceSub, Int.reduceMul, Int.reduceToNat, Nat.reduceLT, Nat.reduceLeDiff, beq_self_eq_true, reduceIte, eq_self, Int.reduceNe, Int.reduceBNe, not_true_eq_false, not_false_eq_true, true_and, and_true, true_or, or_true, false_or, or_false, and_false, false_and, decide_eq_true_eq, Bool.true_and, Bool.and_true, Bool.false_and, Bool.and_false, Bool.true_or, Bool.or_true, Bool.false_or, Bool.or_false, insD_at, isLst_at, asL_at, asQ_at, lstAt_at, trkL_at, truD_atS, dLen_at, dIx_at, isDic_at, setFD_at, isStr_str, isLst_lst, Option.isSome_some, Option.isSome_none, Option.isSome_map, ev_for, ev_lc, ev_iSeq, ev_iRange, ev_sl, evp_none, evp_some, dSl_tup, dSl_lst, wipeD_nil, wipeD_cons, ev_tryH, ev_setI, ev_raise, ev_dput, ev_dnewK, ev_dnewT, setS_cons, setS_nil, mkS_beq, mkS_len, dSplit_mk, signs_mk, List.isEmpty_nil, List.isEmpty_cons, List.length_map, h1] <;> exact rfl) ?_
    refine ws_mid0 (fun s => ∃ rt, Beside rt tb name (pre.map (·.1)) ∧ Own [BkA C rt (18 + 27 * pre.length + 9), BkA B ro 200, Tw 0 (1601 + 70 * pre.length + 70), At T (.dit (rowsD tb))] s) ?_ ?_
    · have d := dg_row (h := a.1.1) (w := w) ((Own.at_ (i := T) o (by repeat first | exact Tk.hd | apply Tk.tl)))
      have d : dgetD s1 (.obj T) (.tup [.str (mkS a.1.1), .str (mkS w)]) = some ((valA tb (a.1.1, w)).map Dt.int) := d
      cases hw2 : valA tb (a.1.1, w) with
      | some g =>
        rw [hw2] at d
        refine ws_nx (by unfold w_law_4; simp only [fnOf, ev_seq, ev_asg, sBnd_def, ev_op, ev_un, bnd_def, ev_call, evs_cons, evs_nil, ev_var, ev_c, ev_if, ev_next, ev_expr, ev_tru, ev_bl, ev_and, ev_or, ev_not, ev_yes, ev_andE, ev_orE, ev_notE, ev_ifE, ev_chain, ofB_some, ofO_some, ofO_none, truD_non, truD_bl, truD_int, truD_str, truD_tup, truD_lst, truD_lsk, ev_tup, ev_lst, ev_nwF, ev_nwM, ev_meth, ev_make, ev_fld, ev_setF, ev_bm1, asQ_tup, asQ_lst, asQ_lsk, asL_lst, asL_lsk, dLen_tup, dLen_lst, dLen_lsk, dLen_str, dIx_tup, dIx_lst, dIx_lsk, dIx_str, dAdd_int, dNeg_int, isN_def, notN_def, isNon_non, isNon_int, isNon_bl, isNon_str, isNon_tup, isNon_lst, isNon_obj, isNon_exc, dEq_int, dNe_int, dEq_str, dNe_str, dEq_bl, atI_zero, atI_one, atI_2, atI_3, atI_4, atI_5, atI_6, atI_7, atI_8, atI_9, atI_10, atI_11, atI_12, atI_m1, ev_gT, setAll_nil, setAll_cons, iOp_int, ev_gN, ev_ret, List.map_cons, List.map_nil, List.length_cons, List.length_nil, rep_zero, rep_succ, List.cons_append, List.nil_append, List.getElem?_cons_zero, List.getElem?_cons_succ, List.set_cons_zero, List.set_cons_succ, Nat.sub_self, Nat.reduceAdd, Nat.reduceSub, Option.map_some, Option.bind_some, if_true, Bool.not_true, Bool.not_false, Bool.false_eq_true, if_false, decide_true, decide_false, Int.reduceBEq, Int.reduceEq, Int.reduceLT, Int.reduceLE, Int.reduceNeg, Int.reduceAdd, Int.reduceSub, Int.reduceMul, Int.reduceToNat, Nat.reduceLT, Nat.reduceLeDiff, beq_self_eq_true, reduceIte, eq_self, Int.reduceNe, Int.reduceBNe, not_true_eq_false, not_false_eq_true, true_and, and_true, true_or, or_true, false_or, or_false, and_false, false_and, decide_eq_true_eq, Bool.true_and, Bool.and_true, Bool.false_and, Bool.and_false, Bool.true_or, Bool.or_true, Bool.false_or, Bool.or_false, insD_at, isLst_at, asL_at, asQ_at, lstAt_at, trkL_at, truD_atS, dLen_at, dIx_at, isDic_at, setFD_at, isStr_str, isLst_lst, Option.isSome_some, Option.isSome_none, Option.isSome_map, ev_for, ev_lc, ev_iSeq, ev_iRange, ev_sl, evp_none, evp_some, dSl_tup, dSl_lst, wipeD_nil, wipeD_cons, ev_tryH, ev_setI, ev_raise, ev_dput, ev_dnewK, ev_dnewT, setS_cons, setS_nil, mkS_beq, mkS_len, dSplit_mk, signs_mk, List.isEmpty_nil, List.isEmpty_cons, List.length_map, dDnotIn, d] <;> exact rfl) ?_
        exact ⟨rfl, rt, hb, (Own.pm (bk_mono (Nat.le_add_right _ 9) (own2 o)) (by repeat first | exact Pm.rfl | (apply Pm.cons; repeat first | exact Tk.hd | apply Tk.tl) | apply Pm.skip))⟩
      | none =>
        rw [hw2] at d
        have n0 : valA rt (a.1.1, w) = none := by
          rw [hb.v, if_neg (abc_ok k1).2, hw2]
          split <;> rfl
        obtain ⟨fs, i1⟩ := bk_at (bk := C) o (by repeat first | exact Tk.hd | apply Tk.tl)
        obtain ⟨s2, h2, o⟩ := ev_put (h := a.1.1) (w := w) (g := 2) (abc_ok k1).1 hw (by decide) (by omega) (own2 o)
        rw [n0] at h2
        obtain ⟨fs2, i2⟩ := bk_at (bk := C) o (by repeat first | exact Tk.hd | apply Tk.tl)
        obtain ⟨s3, h3, o⟩ := ev_drop (h := a.1.1) (w := w) o
        rw [valA_put, if_pos rfl] at h3
        obtain ⟨fs3, i3⟩ := bk_at (bk := C) o (by repeat first | exact Tk.hd | apply Tk.tl)
        obtain ⟨s4, h4, o⟩ := ev_drop (h := a.1.1) (w := w) o
        rw [valA_drop, if_pos rfl] at h4
        refine ws_nx (by unfold w_law_4; simp only [fnOf, ev_seq, ev_asg, sBnd_def, ev_op, ev_un, bnd_def, ev_call, evs_cons, evs_nil, ev_var, ev_c, ev_if, ev_next, ev_expr, ev_tru, ev_bl, ev_and, ev_or, ev_not, ev_yes, ev_andE, ev_orE, ev_notE, ev_ifE, ev_chain, ofB_some, ofO_some, ofO_none, truD_non, truD_bl, truD_int, truD_str, truD_tup, truD_lst, truD_lsk, ev_tup, ev_lst, ev_nwF, ev_nwM, ev_meth, ev_make, ev_fld, ev_setF, ev_bm1, asQ_tup, asQ_lst, asQ_lsk, asL_lst, asL_lsk, dLen_tup, dLen_lst, dLen_lsk, dLen_str, dIx_tup, dIx_lst, dIx_lsk, dIx_str, dAdd_int, dNeg_int, isN_def, notN_def, isNon_non, isNon_int, isNon_bl, isNon_str, isNon_tup, isNon_lst, isNon_obj, isNon_exc, dEq_int, dNe_int, dEq_str, dNe_str, dEq_bl, atI_zero, atI_one, atI_2, atI_3, atI_4, atI_5, atI_6, atI_7, atI_8, atI_9, atI_10, atI_11, atI_12, atI_m1, ev_gT, setAll_nil, setAll_cons, iOp_int, ev_gN, ev_ret, List.map_cons, List.map_nil, List.length_cons, List.length_nil, rep_zero, rep_succ, List.cons_append, List.nil_append, List.getElem?_cons_zero, List.getElem?_cons_succ, List.set_cons_zero, List.set_cons_succ, Nat.sub_self, Nat.reduceAdd, Nat.reduceSub, Option.map_some, Option.bind_some, if_true, Bool.not_true, Bool.not_false, Bool.false_eq_true, if_false, decide_true, decide_false, Int.reduceBEq, Int.reduceEq, Int.reduceLT, Int.reduceLE, Int.reduceNeg, Int.reduceAdd, Int.reduceSub, Int.reduceMul, Int.reduceToNat, Nat.reduceLT, Nat.reduceLeDiff, beq_self_eq_true, reduceIte, eq_self, Int.reduceNe, Int.reduceBNe, not_true_eq_false, not_false_eq_true, true_and, and_true, true_or, or_true, false_or, or_false, and_false, false_and, decide_eq_true_eq, Bool.true_and, Bool.and_true, Bool.false_and, Bool.and_false, Bool.true_or, Bool.or_true, Bool.false_or, Bool.or_false, insD_at, isLst_at, asL_at, asQ_at, lstAt_at, trkL_at, truD_atS, dLen_at, dIx_at, isDic_at, setFD_at, isStr_str, isLst_lst, Option.isSome_some, Option.isSome_none, Option.isSome_map, ev_for, ev_lc, ev_iSeq, ev_iRange, ev_sl, evp_none, evp_some, dSl_tup, dSl_lst, wipeD_nil, wipeD_cons, ev_tryH, ev_setI, ev_raise, ev_dput, ev_dnewK, ev_dnewT, setS_cons, setS_nil, mkS_beq, mkS_len, dSplit_mk, signs_mk, List.isEmpty_nil, List.isEmpty_cons, List.length_map, dDnotIn, d, i1, h2, i2, h3, i3, h4, dIsNotB, Option.map_none, Bool.true_eq_false, Bool.false_eq_true] <;> exact rfl) ?_
        refine ⟨rfl, _, ⟨fun k => ?_⟩, (Own.pm o (by repeat first | exact Pm.rfl | (apply Pm.cons; repeat first | exact Tk.hd | apply Tk.tl) | apply Pm.skip))⟩
        rw [valA_drop, valA_drop, valA_put]
        by_cases e : (a.1.1, w) = k
        · rw [if_pos e, ← hb.v, ← e, n0]
        · rw [if_neg e, if_neg e, if_neg e, hb.v]
    rintro s2 ⟨rt, hb, o⟩
    have d := dg_row (h := a.1.1) (w := a.1.2) ((Own.at_ (i := T) o (by repeat first | exact Tk.hd | apply Tk.tl)))
    rw [hv] at d
    have d : dgetD s2 (.obj T) (.tup [.str (mkS a.1.1), .str (mkS a.1.2)]) = some (some (.int a.2)) := d
    obtain ⟨fs, i1⟩ := bk_at (bk := C) o (by repeat first | exact Tk.hd | apply Tk.tl)
    obtain ⟨s3, h3, o⟩ := ev_put (g := 2 - a.2) (abc_ok k1).1 k2 (by omega) (by omega) o
    refine ws_step (by unfold w_law_5; simp only [fnOf, ev_seq, ev_asg, sBnd_def, ev_op, ev_un, bnd_def, ev_call, evs_cons, evs_nil, ev_var, ev_c, ev_if, ev_next, ev_expr, ev_tru, ev_bl, ev_and, ev_or, ev_not, ev_yes, ev_andE, ev_orE, ev_notE, ev_ifE, ev_chain, ofB_some, ofO_some, ofO_none, truD_non, truD_bl, truD_int, truD_str, truD_tup, truD_lst, truD_lsk, ev_tup, ev_lst, ev_nwF, ev_nwM, ev_meth, ev_make, ev_fld, ev_setF, ev_bm1, asQ_tup, asQ_lst, asQ_lsk, asL_lst, asL_lsk, dLen_tup, dLen_lst, dLen_lsk, dLen_str, dIx_tup, dIx_lst, dIx_lsk, dIx_str, dAdd_int, dNeg_int, isN_def, notN_def, isNon_non, isNon_int, isNon_bl, isNon_str, isNon_tup, isNon_lst, isNon_obj, isNon_exc, dEq_int, dNe_int, dEq_str, dNe_str, dEq_bl, atI_zero, atI_one, atI_2, atI_3, atI_4, atI_5, atI_6, atI_7, atI_8, atI_9, atI_10, atI_11, atI_12, atI_m1, ev_gT, setAll_nil, setAll_cons, iOp_int, ev_gN, ev_ret, List.map_cons, List.map_nil, List.length_cons, List.length_nil, rep_zero, rep_succ, List.cons_append, List.nil_append, List.getElem?_cons_zero, List.getElem?_cons_succ, List.set_cons_zero, List.set_cons_succ, Nat.sub_self, Nat.reduceAdd, Nat.reduceSub, Option.map_some, Option.bind_some, if_true, Bool.not_true, Bool.not_false, Bool.false_eq_true, if_false, decide_true, decide_false, Int.reduceBEq, Int.reduceEq, Int.reduceLT, Int.reduceLE, Int.reduceNeg, Int.reduceAdd, Int.reduceSub, Int.reduceMul, Int.reduceToNat, Nat.reduceLT, Nat.reduceLeDiff, beq_self_eq_true, reduceIte, eq_self, Int.reduceNe, Int.reduceBNe, not_true_eq_false, not_false_eq_true, true_and, and_true, true_or, or_true, false_or, or_false, and_false, false_and, decide_eq_true_eq, Bool.true_and, Bool.and_true, Bool.false_and, Bool.and_false, Bool.true_or, Bool.or_true, Bool.false_or, Bool.or_false, insD_at, isLst_at, asL_at, asQ_at, lstAt_at, trkL_at, truD_atS, dLen_at, dIx_at, isDic_at, setFD_at, isStr_str, isLst_lst, Option.isSome_some, Option.isSome_none, Option.isSome_map, ev_for, ev_lc, ev_iSeq, ev_iRange, ev_sl, evp_none, evp_some, dSl_tup, dSl_lst, wipeD_nil, wipeD_cons, ev_tryH, ev_setI, ev_raise, ev_dput, ev_dnewK, ev_dnewT, setS_cons, setS_nil, mkS_beq, mkS_len, dSplit_mk, signs_mk, List.isEmpty_nil, List.isEmpty_cons, List.length_map, i1, dDget, d, h3] <;> exact rfl) ?_
    have d := dg_row (h := a.1.1) (w := a.1.2) ((Own.at_ (i := T) o (by repeat first | exact Tk.hd | apply Tk.tl)))
    rw [hv] at d
    have d : dgetD s3 (.obj T) (.tup [.str (mkS a.1.1), .str (mkS a.1.2)]) = some (some (.int a.2)) := d
    obtain ⟨fs, i1⟩ := bk_at (bk := C) o (by repeat first | exact Tk.hd | apply Tk.tl)
    obtain ⟨s4, h4, o⟩ := ev_put (abc_ok k1).1 k2 k3 (by omega) o
    rw [valA_put, if_pos rfl] at h4
    refine ws_nx (by unfold w_law_6; simp only [fnOf, ev_seq, ev_asg, sBnd_def, ev_op, ev_un, bnd_def, ev_call, evs_cons, evs_nil, ev_var, ev_c, ev_if, ev_next, ev_expr, ev_tru, ev_bl, ev_and, ev_or, ev_not, ev_yes, ev_andE, ev_orE, ev_notE, ev_ifE, ev_chain, ofB_some, ofO_some, ofO_none, truD_non, truD_bl, truD_int, truD_str, truD_tup, truD_lst, truD_lsk, ev_tup, ev_lst, ev_nwF, ev_nwM, ev_meth, ev_make, ev_fld, ev_setF, ev_bm1, asQ_tup, asQ_lst, asQ_lsk, asL_lst, asL_lsk, dLen_tup, dLen_lst, dLen_lsk, dLen_str, dIx_tup, dIx_lst, dIx_lsk, dIx_str, dAdd_int, dNeg_int, isN_def, notN_def, isNon_non, isNon_int, isNon_bl, isNon_str, isNon_tup, isNon_lst, isNon_obj, isNon_exc, dEq_int, dNe_int, dEq_str, dNe_str, dEq_bl, atI_zero, atI_one, atI_2, atI_3, atI_4, atI_5, atI_6, atI_7, atI_8, atI_9, atI_10, atI_11, atI_12, atI_m1, ev_gT, setAll_nil, setAll_cons, iOp_int, ev_gN, ev_ret, List.map_cons, List.map_nil, List.length_cons, List.length_nil, rep_zero, rep_succ, List.cons_append, List.nil_append, List.getElem?_cons_zero, List.getElem?_cons_succ, List.set_cons_zero, List.set_cons_succ, Nat.sub_self, Nat.reduceAdd, Nat.reduceSub, Option.map_some, Option.bind_some, if_true, Bool.not_true, Bool.not_false, Bool.false_eq_true, if_false, decide_true, decide_false, Int.reduceBEq, Int.reduceEq, Int.reduceLT, Int.reduceLE, Int.reduceNeg, Int.reduceAdd, Int.reduceSub, Int.reduceMul, Int.reduceToNat, Nat.reduceLT, Nat.reduceLeDiff, beq_self_eq_true, reduceIte, eq_self, Int.reduceNe, Int.reduceBNe, not_true_eq_false, not_false_eq_true, true_and, and_true, true_or, or_true, false_or, or_false, and_false, false_and, decide_eq_true_eq, Bool.true_and, Bool.and_true, Bool.false_and, Bool.and_false, Bool.true_or, Bool.or_true, Bool.false_or, Bool.or_false, insD_at, isLst_at, asL_at, asQ_at, lstAt_at, trkL_at, truD_atS, dLen_at, dIx_at, isDic_at, setFD_at, isStr_str, isLst_lst, Option.isSome_some, Option.isSome_none, Option.isSome_map, ev_for, ev_lc, ev_iSeq, ev_iRange, ev_sl, evp_none, evp_some, dSl_tup, dSl_lst, wipeD_nil, wipeD_cons, ev_tryH, ev_setI, ev_raise, ev_dput, ev_dnewK, ev_dnewT, setS_cons, setS_nil, mkS_beq, mkS_len, dSplit_mk, signs_mk, List.isEmpty_nil, List.isEmpty_cons, List.length_map, i1, dDget, d, h4, dIsNotB] <;> exact rfl) ?_
    refine ⟨[_, _], rfl, rfl, _, ⟨fun k => ?_⟩, (Own.pm (Own.more (N := 1601 + 70 * pre.length + 70) ((Own.pm (bk_mono (K := 18 + 27 * (pre ++ [a]).length) (by rw [List.length_append, List.length_singleton]; omega) o) (by repeat first | exact Pm.rfl | (apply Pm.cons; repeat first | exact Tk.hd | apply Tk.tl) | apply Pm.skip))) (M := 1601 + 70 * (pre ++ [a]).length) (by rw [List.length_append, List.length_singleton]; omega)) (by repeat first | exact Pm.rfl | (apply Pm.cons; repeat first | exact Tk.hd | apply Tk.tl) | apply Pm.skip))⟩
    rw [valA_put, valA_put, hb.v]
    simp only [List.map_append, List.mem_append, List.map_cons, List.map_nil, List.mem_singleton]
    by_cases e : (a.1.1, a.1.2) = k
    · have e : a.1 = k := e
      rw [if_pos e, ← e, if_neg (abc_ok k1).2, if_pos (.inr rfl), hv]
    · have e2 : ¬ k = a.1 := fun z => e z.symm
      simp only [e2, or_false]
      rw [if_neg e, if_neg e]
  rintro xs s hx ⟨rt, hb, o⟩
  obtain ⟨b10, b12, rfl⟩ := len2 hx
  refine ⟨trivial, ?_⟩
  show WS _ _ _ _
  have hb : Beside rt tb name (tb.map (·.1)) := ⟨fun k => by
    rw [hb.v]
    have : k ∈ (((srt tb).drop ct).reverse ++ (srt tb).take ct).map (·.1) ↔ k ∈ tb.map (·.1) := (hperm.map _).mem_iff
    simp only [this]⟩
  rw [hperm.length_eq] at o
  obtain ⟨⟨T0, r0⟩, _⟩ := bk_relT (bk := C) o (by repeat first | exact Tk.hd | apply Tk.tl)
  obtain ⟨l1, l2⟩ := hb.leave r0.rn ht (name_not hname)
  obtain ⟨fs, i1⟩ := bk_at (bk := C) o (by repeat first | exact Tk.hd | apply Tk.tl)
  obtain ⟨s2, h2, o⟩ := ev_leave (h := [100]) o
  rw [l1] at h2
  obtain ⟨fs2, i2⟩ := bk_at (bk := C) o (by repeat first | exact Tk.hd | apply Tk.tl)
  obtain ⟨s3, h3, o⟩ := ev_leave (h := [100]) o
  have l3 : ((rt.filter fun x => !(x.1.1 == [100])).filter fun x => x.1.1 == [100]) = [] := by
    rw [List.filter_filter, List.filter_eq_nil_iff]
    intro x _
    cases (x.1.1 == [100]) <;> decide
  have l4 : ((rt.filter fun x => !(x.1.1 == [100])).filter fun x => !(x.1.1 == [100])) = rt.filter fun x => !(x.1.1 == [100]) := by
    rw [List.filter_filter]
    apply List.filter_congr
    intro x _
    cases (x.1.1 == [100]) <;> rfl
  rw [l3] at h3
  rw [l4] at o
  have lt : ∀ s, dLenTx (.lst [.str (mkS [97, 47, 43]), .str (mkS name)]) s = .ok (.int 2) s := fun s => by
    have ne : mkS name ≠ mkS [97, 47, 43] := fun e => name_not hname (mkS_inj e)
    have : uniq [mkS [97, 47, 43], mkS name] = [mkS [97, 47, 43], mkS name] := by
      simp only [uniq, List.foldl_cons, List.foldl_nil, List.not_mem_nil, if_false, List.nil_append, List.mem_singleton, ne, List.cons_append]
    simp only [dLenTx, asL_lst, txtsD, Option.map_some, this]
    rfl
  refine ws_step (by unfold u_law_14; simp only [fnOf, ev_seq, ev_asg, sBnd_def, ev_op, ev_un, bnd_def, ev_call, evs_cons, evs_nil, ev_var, ev_c, ev_if, ev_next, ev_expr, ev_tru, ev_bl, ev_and, ev_or, ev_not, ev_yes, ev_andE, ev_orE, ev_notE, ev_ifE, ev_chain, ofB_some, ofO_some, ofO_none, truD_non, truD_bl, truD_int, truD_str, truD_tup, truD_lst, truD_lsk, ev_tup, ev_lst, ev_nwF, ev_nwM, ev_meth, ev_make, ev_fld, ev_setF, ev_bm1, asQ_tup, asQ_lst, asQ_lsk, asL_lst, asL_lsk, dLen_tup, dLen_lst, dLen_lsk, dLen_str, dIx_tup, dIx_lst, dIx_lsk, dIx_str, dAdd_int, dNeg_int, isN_def, notN_def, isNon_non, isNon_int, isNon_bl, isNon_str, isNon_tup, isNon_lst, isNon_obj, isNon_exc, dEq_int, dNe_int, dEq_str, dNe_str, dEq_bl, atI_zero, atI_one, atI_2, atI_3, atI_4, atI_5, atI_6, atI_7, atI_8, atI_9, atI_10, atI_11, atI_12, atI_m1, ev_gT, setAll_nil, setAll_cons, iOp_int, ev_gN, ev_ret, List.map_cons, List.map_nil, List.length_cons, List.length_nil, rep_zero, rep_succ, List.cons_append, List.nil_append, List.getElem?_cons_zero, List.getElem?_cons_succ, List.set_cons_zero, List.set_cons_succ, Nat.sub_self, Nat.reduceAdd, Nat.reduceSub, Option.map_some, Option.bind_some, if_true, Bool.not_true, Bool.not_false, Bool.false_eq_true, if_false, decide_true, decide_false, Int.reduceBEq, Int.reduceEq, Int.reduceLT, Int.reduceLE, Int.reduceNeg, Int.reduceAdd, Int.reduceSub, Int.reduceMul, Int.reduceToNat, Nat.reduceLT, Nat.reduceLeDiff, beq_self_eq_true, reduceIte, eq_self, Int.reduceNe, Int.reduceBNe, not_true_eq_false, not_false_eq_true, true_and, and_true, true_or, or_true, false_or, or_false, and_false, false_and, decide_eq_true_eq, Bool.true_and, Bool.and_true, Bool.false_and, Bool.and_false, Bool.true_or, Bool.or_true, Bool.false_or, Bool.or_false, insD_at, isLst_at, asL_at, asQ_at, lstAt_at, trkL_at, truD_atS, dLen_at, dIx_at, isDic_at, setFD_at, isStr_str, isLst_lst, Option.isSome_some, Option.isSome_none, Option.isSome_map, ev_for, ev_lc, ev_iSeq, ev_iRange, ev_sl, evp_none, evp_some, dSl_tup, dSl_lst, wipeD_nil, wipeD_cons, ev_tryH, ev_setI, ev_raise, ev_dput, ev_dnewK, ev_dnewT, setS_cons, setS_nil, mkS_beq, mkS_len, dSplit_mk, signs_mk, List.isEmpty_nil, List.isEmpty_cons, List.length_map, i1, t_d, t_aspl, h2, lt, i2, h3] <;> exact rfl) ?_
  obtain ⟨⟨T1, r1⟩, _⟩ := bk_relT (bk := B) o (by repeat first | exact Tk.hd | apply Tk.tl)
  have pm : ro.Perm (rt.filter fun x => !(x.1.1 == [100])) := (hro.perm r1.rn ht).trans l2.symm
  have pl : ro.length = tb.length := (hro.perm r1.rn ht).length_eq
  -- who hears
  obtain ⟨m1, m2⟩ := name_more hname (by omega)
  refine ws_seq ?_
  unfold u_law_15
  have lq : (Q.length : Int) < 8 := by omega
  have ad : ∀ s, dAdd nwF (.str (mkS name)) (.str (mkS [47, 122, 122])) s = .ok (.str (mkS (name ++ [47, 122, 122]))) s := fun s => by
    rw [str_obj]
    have := name_len hname
    exact if_pos (by simp only [List.length_cons, List.length_nil]; omega)
  refine ws_for (f := fun l => Dt.str (mkS l)) [13] (fun _ _ s => Own [BkA B ro 600, BkA C (rt.filter fun x => !(x.1.1 == [100])) 600, At T (.dit (rowsD tb))] s) (l := [name, [122, 122], name ++ [47, 122, 122]]) (ok := fun _ => True) (s0 := s3) ?_ rfl ?_ ?_ ?_
  · simp only [fnOf, ev_seq, ev_asg, sBnd_def, ev_op, ev_un, bnd_def, ev_call, evs_cons, evs_nil, ev_var, ev_c, ev_if, ev_next, ev_expr, ev_tru, ev_bl, ev_and, ev_or, ev_not, ev_yes, ev_andE, ev_orE, ev_notE, ev_ifE, ev_chain, ofB_some, ofO_some, ofO_none, truD_non, truD_bl, truD_int, truD_str, truD_tup, truD_lst, truD_lsk, ev_tup, ev_lst, ev_nwF, ev_nwM, ev_meth, ev_make, ev_fld, ev_setF, ev_bm1, asQ_tup, asQ_lst, asQ_lsk, asL_lst, asL_lsk, dLen_tup, dLen_lst, dLen_lsk, dLen_str, dIx_tup, dIx_lst, dIx_lsk, dIx_str, dAdd_int, dNeg_int, isN_def, notN_def, isNon_non, isNon_int, isNon_bl, isNon_str, isNon_tup, isNon_lst, isNon_obj, isNon_exc, dEq_int, dNe_int, dEq_str, dNe_str, dEq_bl, atI_zero, atI_one, atI_2, atI_3, atI_4, atI_5, atI_6, atI_7, atI_8, atI_9, atI_10, atI_11, atI_12, atI_m1, ev_gT, setAll_nil, setAll_cons, iOp_int, ev_gN, ev_ret, List.map_cons, List.map_nil, List.length_cons, List.length_nil, rep_zero, rep_succ, List.cons_append, List.nil_append, List.getElem?_cons_zero, List.getElem?_cons_succ, List.set_cons_zero, List.set_cons_succ, Nat.sub_self, Nat.reduceAdd, Nat.reduceSub, Option.map_some, Option.bind_some, if_true, Bool.not_true, Bool.not_false, Bool.false_eq_true, if_false, decide_true, decide_false, Int.reduceBEq, Int.reduceEq, Int.reduceLT, Int.reduceLE, Int.reduceNeg, Int.reduceAdd, Int.reduceSub, Int.reduceMul, Int.reduceToNat, Nat.reduceLT, Nat.reduceLeDiff, beq_self_eq_true, reduceIte, eq_self, Int.reduceNe, Int.reduceBNe, not_true_eq_false, not_false_eq_true, true_and, and_true, true_or, or_true, false_or, or_false, and_false, false_and, decide_eq_true_eq, Bool.true_and, Bool.and_true, Bool.false_and, Bool.and_false, Bool.true_or, Bool.or_true, Bool.false_or, Bool.or_false, insD_at, isLst_at, asL_at, asQ_at, lstAt_at, trkL_at, truD_atS, dLen_at, dIx_at, isDic_at, setFD_at, isStr_str, isLst_lst, Option.isSome_some, Option.isSome_none, Option.isSome_map, ev_for, ev_lc, ev_iSeq, ev_iRange, ev_sl, evp_none, evp_some, dSl_tup, dSl_lst, wipeD_nil, wipeD_cons, ev_tryH, ev_setI, ev_raise, ev_dput, ev_dnewK, ev_dnewT, setS_cons, setS_nil, mkS_beq, mkS_len, dSplit_mk, signs_mk, List.isEmpty_nil, List.isEmpty_cons, List.length_map, lq, dLt, t_zz, t_szz, ad] <;> exact rfl
  · exact (Own.pm (bk_mono (K := 600) (by omega) (own2 (bk_mono (K := 600) (by omega) o))) (by repeat first | exact Pm.rfl | (apply Pm.cons; repeat first | exact Tk.hd | apply Tk.tl) | apply Pm.skip))
  · rintro pre a post xs s hall hx o
    obtain ⟨x, rfl⟩ := len1 hx
    have ha : a ∈ [name, [122, 122], name ++ [47, 122, 122]] := by rw [hall]; simp
    obtain ⟨ha1, ha2⟩ : isName a = true ∧ (splC 47 a).length ≤ 5 := by
      simp only [List.mem_cons, List.not_mem_nil, or_false] at ha
      rcases ha with e | e | e
      · subst e; exact ⟨hname, by omega⟩
      · subst e; decide
      · subst e; exact ⟨m1, by omega⟩
    obtain ⟨fs, i1⟩ := bk_at (bk := B) o (by repeat first | exact Tk.hd | apply Tk.tl)
    obtain ⟨L1, s1, h1, o⟩ := ev_hears ha1 (name_fits ha2 (by omega)) o
    obtain ⟨fs2, i2⟩ := bk_at (bk := C) o (by repeat first | exact Tk.hd | apply Tk.tl)
    obtain ⟨L2, s2, h2, o⟩ := ev_hears ha1 (name_fits ha2 (by omega)) (own3 o)
    rw [← tell_perm pm (fun x hx => (r1.ok x.1.1 x.1.2 x.2 hx).2.2.1) a] at o
    have ne := dNe_objs ((Own.at_ (i := L1) o (by repeat first | exact Tk.hd | apply Tk.tl))) ((Own.at_ (i := L2) o (by repeat first | exact Tk.hd | apply Tk.tl))) (dpt_pair _)
    refine ⟨trivial, _, rfl, ?_⟩
    refine ws_nx (by unfold l_law_4; simp only [fnOf, ev_seq, ev_asg, sBnd_def, ev_op, ev_un, bnd_def, ev_call, evs_cons, evs_nil, ev_var, ev_c, ev_if, ev_next, ev_expr, ev_tru, ev_bl, ev_and, ev_or, ev_not, ev_yes, ev_andE, ev_orE, ev_notE, ev_ifE, ev_chain, ofB_some, ofO_some, ofO_none, truD_non, truD_bl, truD_int, truD_str, truD_tup, truD_lst, truD_lsk, ev_tup, ev_lst, ev_nwF, ev_nwM, ev_meth, ev_make, ev_fld, ev_setF, ev_bm1, asQ_tup, asQ_lst, asQ_lsk, asL_lst, asL_lsk, dLen_tup, dLen_lst, dLen_lsk, dLen_str, dIx_tup, dIx_lst, dIx_lsk, dIx_str, dAdd_int, dNeg_int, isN_def, notN_def, isNon_non, isNon_int, isNon_bl, isNon_str, isNon_tup, isNon_lst, isNon_obj, isNon_exc, dEq_int, dNe_int, dEq_str, dNe_str, dEq_bl, atI_zero, atI_one, atI_2, atI_3, atI_4, atI_5, atI_6, atI_7, atI_8, atI_9, atI_10, atI_11, atI_12, atI_m1, ev_gT, setAll_nil, setAll_cons, iOp_int, ev_gN, ev_ret, List.map_cons, List.map_nil, List.length_cons, List.length_nil, rep_zero, rep_succ, List.cons_append, List.nil_append, List.getElem?_cons_zero, List.getElem?_cons_succ, List.set_cons_zero, List.set_cons_succ, Nat.sub_self, Nat.reduceAdd, Nat.reduceSub, Option.map_some, Option.bind_some, if_true, Bool.not_true, Bool.not_false, Bool.false_eq_true, if_false, decide_true, decide_false, Int.reduceBEq, Int.reduceEq, Int.reduceLT, Int.reduceLE, Int.reduceNeg, Int.reduceAdd, Int.reduceSub, Int.reduceMul, Int.reduceToNat, Nat.reduceLT, Nat.reduceLeDiff, beq_self_eq_true, reduceIte, eq_self, Int.reduceNe, Int.reduceBNe, not_true_eq_false, not_false_eq_true, true_and, and_true, true_or, or_true, false_or, or_false, and_false, false_and, decide_eq_true_eq, Bool.true_and, Bool.and_true, Bool.false_and, Bool.and_false, Bool.true_or, Bool.or_true, Bool.false_or, Bool.or_false, insD_at, isLst_at, asL_at, asQ_at, lstAt_at, trkL_at, truD_atS, dLen_at, dIx_at, isDic_at, setFD_at, isStr_str, isLst_lst, Option.isSome_some, Option.isSome_none, Option.isSome_map, ev_for, ev_lc, ev_iSeq, ev_iRange, ev_sl, evp_none, evp_some, dSl_tup, dSl_lst, wipeD_nil, wipeD_cons, ev_tryH, ev_setI, ev_raise, ev_dput, ev_dnewK, ev_dnewT, setS_cons, setS_nil, mkS_beq, mkS_len, dSplit_mk, signs_mk, List.isEmpty_nil, List.isEmpty_cons, List.length_map, i1, h1, i2, h2, ne] <;> exact rfl) ?_
    exact ⟨[_], rfl, rfl, (Own.pm o (by repeat first | exact Pm.rfl | (apply Pm.cons; repeat first | exact Tk.hd | apply Tk.tl) | apply Pm.skip))⟩
  rintro xs s hx o
  obtain ⟨a13, rfl⟩ := len1 hx
  refine ⟨trivial, ?_⟩
  show WS _ _ _ _
  -- all wishes
  refine ws_seq ?_
  unfold u_law_16
  refine ws_if (wt_not (wt_tru (we_un (we_lcM (f := fun l => Dt.str (mkS l)) (g := fun _ => Dt.bl true) (l := [[97], [98], [99], [100]]) (ok := fun _ => True) (s0 := s) ?_ trivial ?_ ?_))))
  · simp only [fnOf, ev_seq, ev_asg, sBnd_def, ev_op, ev_un, bnd_def, ev_call, evs_cons, evs_nil, ev_var, ev_c, ev_if, ev_next, ev_expr, ev_tru, ev_bl, ev_and, ev_or, ev_not, ev_yes, ev_andE, ev_orE, ev_notE, ev_ifE, ev_chain, ofB_some, ofO_some, ofO_none, truD_non, truD_bl, truD_int, truD_str, truD_tup, truD_lst, truD_lsk, ev_tup, ev_lst, ev_nwF, ev_nwM, ev_meth, ev_make, ev_fld, ev_setF, ev_bm1, asQ_tup, asQ_lst, asQ_lsk, asL_lst, asL_lsk, dLen_tup, dLen_lst, dLen_lsk, dLen_str, dIx_tup, dIx_lst, dIx_lsk, dIx_str, dAdd_int, dNeg_int, isN_def, notN_def, isNon_non, isNon_int, isNon_bl, isNon_str, isNon_tup, isNon_lst, isNon_obj, isNon_exc, dEq_int, dNe_int, dEq_str, dNe_str, dEq_bl, atI_zero, atI_one, atI_2, atI_3, atI_4, atI_5, atI_6, atI_7, atI_8, atI_9, atI_10, atI_11, atI_12, atI_m1, ev_gT, setAll_nil, setAll_cons, iOp_int, ev_gN, ev_ret, List.map_cons, List.map_nil, List.length_cons, List.length_nil, rep_zero, rep_succ, List.cons_append, List.nil_append, List.getElem?_cons_zero, List.getElem?_cons_succ, List.set_cons_zero, List.set_cons_succ, Nat.sub_self, Nat.reduceAdd, Nat.reduceSub, Option.map_some, Option.bind_some, if_true, Bool.not_true, Bool.not_false, Bool.false_eq_true, if_false, decide_true, decide_false, Int.reduceBEq, Int.reduceEq, Int.reduceLT, Int.reduceLE, Int.reduceNeg, Int.reduceAdd, Int.reduceSub, Int.reduceMul, Int.reduceToNat, Nat.reduceLT, Nat.reduceLeDiff, beq_self_eq_true, reduceIte, eq_self, Int.reduceNe, Int.reduceBNe, not_true_eq_false, not_false_eq_true, true_and, and_true, true_or, or_true, false_or, or_false, and_false, false_and, decide_eq_true_eq, Bool.true_and, Bool.and_true, Bool.false_and, Bool.and_false, Bool.true_or, Bool.or_true, Bool.false_or, Bool.or_false, insD_at, isLst_at, asL_at, asQ_at, lstAt_at, trkL_at, truD_atS, dLen_at, dIx_at, isDic_at, setFD_at, isStr_str, isLst_lst, Option.isSome_some, Option.isSome_none, Option.isSome_map, ev_for, ev_lc, ev_iSeq, ev_iRange, ev_sl, evp_none, evp_some, dSl_tup, dSl_lst, wipeD_nil, wipeD_cons, ev_tryH, ev_setI, ev_raise, ev_dput, ev_dnewK, ev_dnewT, setS_cons, setS_nil, mkS_beq, mkS_len, dSplit_mk, signs_mk, List.isEmpty_nil, List.isEmpty_cons, List.length_map, t_a, t_b, t_c, t_d] <;> exact rfl
  · intro a ha
    obtain ⟨fs, i1⟩ := bk_at (bk := B) o (by repeat first | exact Tk.hd | apply Tk.tl)
    obtain ⟨fs2, i2⟩ := bk_at (bk := C) o (by repeat first | exact Tk.hd | apply Tk.tl)
    have w1 := ev_wishes (h := a) o
    have w2 := ev_wishes (h := a) (own2 o)
    rw [← wtell_perm pm a] at w2
    have de := (dNe_lst (s := s) (dpt_pair (wtell ro a)) (by decide)).1
    exact ⟨_, rfl, rfl, by simp only [fnOf, ev_seq, ev_asg, sBnd_def, ev_op, ev_un, bnd_def, ev_call, evs_cons, evs_nil, ev_var, ev_c, ev_if, ev_next, ev_expr, ev_tru, ev_bl, ev_and, ev_or, ev_not, ev_yes, ev_andE, ev_orE, ev_notE, ev_ifE, ev_chain, ofB_some, ofO_some, ofO_none, truD_non, truD_bl, truD_int, truD_str, truD_tup, truD_lst, truD_lsk, ev_tup, ev_lst, ev_nwF, ev_nwM, ev_meth, ev_make, ev_fld, ev_setF, ev_bm1, asQ_tup, asQ_lst, asQ_lsk, asL_lst, asL_lsk, dLen_tup, dLen_lst, dLen_lsk, dLen_str, dIx_tup, dIx_lst, dIx_lsk, dIx_str, dAdd_int, dNeg_int, isN_def, notN_def, isNon_non, isNon_int, isNon_bl, isNon_str, isNon_tup, isNon_lst, isNon_obj, isNon_exc, dEq_int, dNe_int, dEq_str, dNe_str, dEq_bl, atI_zero, atI_one, atI_2, atI_3, atI_4, atI_5, atI_6, atI_7, atI_8, atI_9, atI_10, atI_11, atI_12, atI_m1, ev_gT, setAll_nil, setAll_cons, iOp_int, ev_gN, ev_ret, List.map_cons, List.map_nil, List.length_cons, List.length_nil, rep_zero, rep_succ, List.cons_append, List.nil_append, List.getElem?_cons_zero, List.getElem?_cons_succ, List.set_cons_zero, List.set_cons_succ, Nat.sub_self, Nat.reduceAdd, Nat.reduceSub, Option.map_some, Option.bind_some, if_true, Bool.not_true, Bool.not_false, Bool.false_eq_true, if_false, decide_true, decide_false, Int.reduceBEq, Int.reduceEq, Int.reduceLT, Int.reduceLE, Int.reduceNeg, Int.reduceAdd, Int.reduceSub, Int.reduceMul, Int.reduceToNat, Nat.reduceLT, Nat.reduceLeDiff, beq_self_eq_true, reduceIte, eq_self, Int.reduceNe, Int.reduceBNe, not_true_eq_false, not_false_eq_true, true_and, and_true, true_or, or_true, false_or, or_false, and_false, false_and, decide_eq_true_eq, Bool.true_and, Bool.and_true, Bool.false_and, Bool.and_false, Bool.true_or, Bool.or_true, Bool.false_or, Bool.or_false, insD_at, isLst_at, asL_at, asQ_at, lstAt_at, trkL_at, truD_atS, dLen_at, dIx_at, isDic_at, setFD_at, isStr_str, isLst_lst, Option.isSome_some, Option.isSome_none, Option.isSome_map, ev_for, ev_lc, ev_iSeq, ev_iRange, ev_sl, evp_none, evp_some, dSl_tup, dSl_lst, wipeD_nil, wipeD_cons, ev_tryH, ev_setI, ev_raise, ev_dput, ev_dnewK, ev_dnewT, setS_cons, setS_nil, mkS_beq, mkS_len, dSplit_mk, signs_mk, List.isEmpty_nil, List.isEmpty_cons, List.length_map, i1, w1, i2, w2, de]⟩
  refine wo_ok ?_
  rw [dAll_map]
  show WS _ _ _ _
  obtain ⟨fs, i1⟩ := bk_at (bk := B) o (by repeat first | exact Tk.hd | apply Tk.tl)
  obtain ⟨fs2, i2⟩ := bk_at (bk := C) o (by repeat first | exact Tk.hd | apply Tk.tl)
  have z1 := ev_size o
  have z2 := ev_size (own2 o)
  have dl : (rowsD tb).length = tb.length := by unfold rowsD bothM; rw [List.length_map]
  have gT := (Own.at_ (i := T) o (by repeat first | exact Tk.hd | apply Tk.tl))
  rw [← pm.length_eq, pl] at z2
  rw [pl] at z1
  refine ws_rt (by unfold u_law_17; simp only [fnOf, ev_seq, ev_asg, sBnd_def, ev_op, ev_un, bnd_def, ev_call, evs_cons, evs_nil, ev_var, ev_c, ev_if, ev_next, ev_expr, ev_tru, ev_bl, ev_and, ev_or, ev_not, ev_yes, ev_andE, ev_orE, ev_notE, ev_ifE, ev_chain, ofB_some, ofO_some, ofO_none, truD_non, truD_bl, truD_int, truD_str, truD_tup, truD_lst, truD_lsk, ev_tup, ev_lst, ev_nwF, ev_nwM, ev_meth, ev_make, ev_fld, ev_setF, ev_bm1, asQ_tup, asQ_lst, asQ_lsk, asL_lst, asL_lsk, dLen_tup, dLen_lst, dLen_lsk, dLen_str, dIx_tup, dIx_lst, dIx_lsk, dIx_str, dAdd_int, dNeg_int, isN_def, notN_def, isNon_non, isNon_int, isNon_bl, isNon_str, isNon_tup, isNon_lst, isNon_obj, isNon_exc, dEq_int, dNe_int, dEq_str, dNe_str, dEq_bl, atI_zero, atI_one, atI_2, atI_3, atI_4, atI_5, atI_6, atI_7, atI_8, atI_9, atI_10, atI_11, atI_12, atI_m1, ev_gT, setAll_nil, setAll_cons, iOp_int, ev_gN, ev_ret, List.map_cons, List.map_nil, List.length_cons, List.length_nil, rep_zero, rep_succ, List.cons_append, List.nil_append, List.getElem?_cons_zero, List.getElem?_cons_succ, List.set_cons_zero, List.set_cons_succ, Nat.sub_self, Nat.reduceAdd, Nat.reduceSub, Option.map_some, Option.bind_some, if_true, Bool.not_true, Bool.not_false, Bool.false_eq_true, if_false, decide_true, decide_false, Int.reduceBEq, Int.reduceEq, Int.reduceLT, Int.reduceLE, Int.reduceNeg, Int.reduceAdd, Int.reduceSub, Int.reduceMul, Int.reduceToNat, Nat.reduceLT, Nat.reduceLeDiff, beq_self_eq_true, reduceIte, eq_self, Int.reduceNe, Int.reduceBNe, not_true_eq_false, not_false_eq_true, true_and, and_true, true_or, or_true, false_or, or_false, and_false, false_and, decide_eq_true_eq, Bool.true_and, Bool.and_true, Bool.false_and, Bool.and_false, Bool.true_or, Bool.or_true, Bool.false_or, Bool.or_false, insD_at, isLst_at, asL_at, asQ_at, lstAt_at, trkL_at, truD_atS, dLen_at, dIx_at, isDic_at, setFD_at, isStr_str, isLst_lst, Option.isSome_some, Option.isSome_none, Option.isSome_map, ev_for, ev_lc, ev_iSeq, ev_iRange, ev_sl, evp_none, evp_some, dSl_tup, dSl_lst, wipeD_nil, wipeD_cons, ev_tryH, ev_setI, ev_raise, ev_dput, ev_dnewK, ev_dnewT, setS_cons, setS_nil, mkS_beq, mkS_len, dSplit_mk, signs_mk, List.isEmpty_nil, List.isEmpty_cons, List.length_map, i1, z1, i2, z2, gT, dl] <;> exact rfl) ?_
  rfl
end Tx
open PySem PySem.W PyProof.Rows
set_option maxRecDepth 100000 in
set_option maxHeartbeats 0 in
theorem PySem.Challenge.cw_tidinghall_k11_whole_any_turn_holds : PySem.Challenge.rw_tidinghall_k11_whole_any_turn.Holds := by
  w_on; o_law; k_head; (case hw => w_witness2)
  k_fill
  refine Tx.walk Tx.law_true (l := PySem.Challenge.rw_tidinghall_k11_whole_any_turn) rfl rfl (fun w h Y => PySem.W.kIn_of Y) ?F
  case F =>
    intro w mg fa h KX G hmg
    refine' Tx.all_mk KX G hmg ?aC_Node ?kC_Node ?aC_Book ?kC_Book ?aC_TidingError ?kC_TidingError ?aC_BadName ?kC_BadName ?a_is_level ?l_is_level ?c_is_level ?k_is_level ?a_look_hearer ?l_look_hearer ?c_look_hearer ?k_look_hearer ?a_look_grade ?l_look_grade ?c_look_grade ?k_look_grade ?a_Node_init ?i_Node_init ?l_Node_init ?c_Node_init ?k_Node_init ?a_Book_wishes ?i_Book_wishes ?l_Book_wishes ?c_Book_wishes ?k_Book_wishes ?a_Book_size ?i_Book_size ?l_Book_size ?c_Book_size ?k_Book_size ?a_Book_take ?i_Book_take ?l_Book_take ?c_Book_take ?k_Book_take ?a_law_cell ?l_law_cell ?c_law_cell ?k_law_cell ?a_law_is_level ?l_law_is_level ?c_law_is_level ?k_law_is_level ?a_look_name ?l_look_name ?c_look_name ?k_look_name ?a_look_wish ?l_look_wish ?c_look_wish ?k_look_wish ?a_law_mix ?l_law_mix ?c_law_mix ?k_law_mix ?a_law_is_wish ?l_law_is_wish ?c_law_is_wish ?k_law_is_wish ?a_Book_init ?i_Book_init ?l_Book_init ?c_Book_init ?k_Book_init ?a_Book_node ?i_Book_node ?l_Book_node ?c_Book_node ?k_Book_node ?a_law_draw ?l_law_draw ?c_law_draw ?k_law_draw ?a_Book_put ?i_Book_put ?l_Book_put ?c_Book_put ?k_Book_put ?a_Book_drop ?i_Book_drop ?l_Book_drop ?c_Book_drop ?k_Book_drop ?a_law_pick ?l_law_pick ?c_law_pick ?k_law_pick ?a_Book_leave ?i_Book_leave ?l_Book_leave ?c_Book_leave ?k_Book_leave ?a_law_signs ?l_law_signs ?c_law_signs ?k_law_signs ?a_law_level ?l_law_level ?c_law_level ?k_law_level ?a_law_wish ?l_law_wish ?c_law_wish ?k_law_wish ?a_Book_collect ?i_Book_collect ?l_Book_collect ?c_Book_collect ?k_Book_collect ?a_Book_hears ?i_Book_hears ?l_Book_hears ?c_Book_hears ?k_Book_hears ?a_law ?l_law ?c_law ?k_law ?pg_Node ?hd_Node ?po_Node ?sa_Node ?mk_Node ?n_Node_below ?n_Node_hearers ?pg_Book ?hd_Book ?po_Book ?sa_Book ?mk_Book ?n_Book_top ?n_Book_rows ?x_TidingError ?b_TidingError ?t_TidingError ?x_BadName ?b_BadName ?t_BadName ?n_all ?n_len ?n_max ?n_ord ?n_range ?n_set ?n_sorted ?v_MOST_LEVELS ?v_MOST_SIGNS ?v_SMALL
    (case aC_Node => k_is)
    (case kC_Node => k_is)
    (case aC_Book => k_is)
    (case kC_Book => k_is)
    (case aC_TidingError => k_is)
    (case kC_TidingError => k_is)
    (case aC_BadName => k_is)
    (case kC_BadName => k_is)
    (case a_is_level => k_is)
    (case l_is_level => k_is)
    (case c_is_level => k_is)
    (case k_is_level => k_is)
    (case a_look_hearer => k_is)
    (case l_look_hearer => k_is)
    (case c_look_hearer => k_is)
    (case k_look_hearer => k_is)
    (case a_look_grade => k_is)
    (case l_look_grade => k_is)
    (case c_look_grade => k_is)
    (case k_look_grade => k_is)
    (case a_Node_init => k_is)
    (case i_Node_init => k_is)
    (case l_Node_init => k_is)
    (case c_Node_init => k_is)
    (case k_Node_init => k_is)
    (case a_Book_wishes => k_is)
    (case i_Book_wishes => k_is)
    (case l_Book_wishes => k_is)
    (case c_Book_wishes => k_is)
    (case k_Book_wishes => k_is)
    (case a_Book_size => k_is)
    (case i_Book_size => k_is)
    (case l_Book_size => k_is)
    (case c_Book_size => k_is)
    (case k_Book_size => k_is)
    (case a_Book_take => k_is)
    (case i_Book_take => k_is)
    (case l_Book_take => k_is)
    (case c_Book_take => k_is)
    (case k_Book_take => k_is)
    (case a_law_cell => k_is)
    (case l_law_cell => k_is)
    (case c_law_cell => k_is)
    (case k_law_cell => k_is)
    (case a_law_is_level => k_is)
    (case l_law_is_level => k_is)
    (case c_law_is_level => k_is)
    (case k_law_is_level => k_is)
    (case a_look_name => k_is)
    (case l_look_name => k_is)
    (case c_look_name => k_is)
    (case k_look_name => k_is)
    (case a_look_wish => k_is)
    (case l_look_wish => k_is)
    (case c_look_wish => k_is)
    (case k_look_wish => k_is)
    (case a_law_mix => k_is)
    (case l_law_mix => k_is)
    (case c_law_mix => k_is)
    (case k_law_mix => k_is)
    (case a_law_is_wish => k_is)
    (case l_law_is_wish => k_is)
    (case c_law_is_wish => k_is)
    (case k_law_is_wish => k_is)
    (case a_Book_init => k_is)
    (case i_Book_init => k_is)
    (case l_Book_init => k_is)
    (case c_Book_init => k_is)
    (case k_Book_init => k_is)
    (case a_Book_node => k_is)
    (case i_Book_node => k_is)
    (case l_Book_node => k_is)
    (case c_Book_node => k_is)
    (case k_Book_node => k_is)
    (case a_law_draw => k_is)
    (case l_law_draw => k_is)
    (case c_law_draw => k_is)
    (case k_law_draw => k_is)
    (case a_Book_put => k_is)
    (case i_Book_put => k_is)
    (case l_Book_put => k_is)
    (case c_Book_put => k_is)
    (case k_Book_put => k_is)
    (case a_Book_drop => k_is)
    (case i_Book_drop => k_is)
    (case l_Book_drop => k_is)
    (case c_Book_drop => k_is)
    (case k_Book_drop => k_is)
    (case a_law_pick => k_is)
    (case l_law_pick => k_is)
    (case c_law_pick => k_is)
    (case k_law_pick => k_is)
    (case a_Book_leave => k_is)
    (case i_Book_leave => k_is)
    (case l_Book_leave => k_is)
    (case c_Book_leave => k_is)
    (case k_Book_leave => k_is)
    (case a_law_signs => k_is)
    (case l_law_signs => k_is)
    (case c_law_signs => k_is)
    (case k_law_signs => k_is)
    (case a_law_level => k_is)
    (case l_law_level => k_is)
    (case c_law_level => k_is)
    (case k_law_level => k_is)
    (case a_law_wish => k_is)
    (case l_law_wish => k_is)
    (case c_law_wish => k_is)
    (case k_law_wish => k_is)
    (case a_Book_collect => k_is)
    (case i_Book_collect => k_is)
    (case l_Book_collect => k_is)
    (case c_Book_collect => k_is)
    (case k_Book_collect => k_is)
    (case a_Book_hears => k_is)
    (case i_Book_hears => k_is)
    (case l_Book_hears => k_is)
    (case c_Book_hears => k_is)
    (case k_Book_hears => k_is)
    (case a_law => k_is)
    (case l_law => k_is)
    (case c_law => k_is)
    (case k_law => k_is)
    (case pg_Node => k_is)
    (case hd_Node => k_is)
    (case po_Node => k_is)
    (case sa_Node => k_is)
    (case mk_Node => k_is)
    (case n_Node_below => k_is)
    (case n_Node_hearers => k_is)
    (case pg_Book => k_is)
    (case hd_Book => k_is)
    (case po_Book => k_is)
    (case sa_Book => k_is)
    (case mk_Book => k_is)
    (case n_Book_top => k_is)
    (case n_Book_rows => k_is)
    (case x_TidingError => k_exc)
    (case b_TidingError => k_is)
    (case t_TidingError => k_is)
    (case x_BadName => k_exc)
    (case b_BadName => k_is)
    (case t_BadName => k_is)
    (case n_all => k_is)
    (case n_len => k_is)
    (case n_max => k_is)
    (case n_ord => k_is)
    (case n_range => k_is)
    (case n_set => k_is)
    (case n_sorted => k_is)
    (case v_MOST_LEVELS => k_is)
    (case v_MOST_SIGNS => k_is)
    (case v_SMALL => k_is)
