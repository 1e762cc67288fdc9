import PyProof.Rows.All
import Wide.All
import OpenK.AllK
import Wide.FinOn
import HandS.ForMost
import HandS.ForExc
import KE.KeyNested
import HandS.Flow
import HandS.TupAny
import HandS.Deep
import HandS.TupLen
import HandS.ExcCtx
import HandS.SetFor
import HandS.IsInst
import HandS.ExcIs
import HandS.SuiteRaise
import HandS.RaiseFrom
import KE.RegKIsAll
import KE.RegKTryMore
import HandS.DictTup
import PyProof.DictMoreH
import KE.KDictWalk
import HandS.Conv
import PyProof.StrOps2
import HandS.TupMul
import HandS.NoneIn
import HandS.SortInts
import PyProof.Rows.SortKeyStr
import PyProof.Rows.SortStr
import KE.KDictSum
import KE.KDictList
import HandS.Strs
import HandS.Style
import HandS.WrittenGet
import HandS.TryOnly
import HandS.HeadHook3
import PySem.Challenge.RW_tidinghall_k40_whole_rules
set_option Elab.async false
set_option linter.all false
set_option autoImplicit false
set_option maxRecDepth 100000
set_option maxHeartbeats 4000000
/-! A layer of values over the hand layer: data that never changes is a plain value (Dt), what changes stands in a store (Mo) by number. -/
namespace Pd
open PySem L2

inductive Dt where
  | non | bl (b : Bool) | int (i : Int) | str (x : Str) | tup (l : List Dt) | lst (l : List Dt) | lsk (l : List Dt) | obj (i : Nat) | exc (c : Nat)
inductive Mo where
  | lst (l : List Dt) | ins (c : Nat) (fs : List Dt) | dic (kvs : List (Key × Dt)) | dit (kvs : List (List Key × Dt)) | dicL (kvs : List (Key × Dt)) | ditL (kvs : List (List Key × Dt)) | did (kvs : List (NestedKey × Dt))
abbrev Sto := List Mo
inductive Out (α : Type) where
  | ok (a : α) (s : Sto) | exc (c : Nat) (s : Sto) | bad
/-- the classes by number: name, attributes in the order of their first store -/
abbrev Cn := Nat → Str × List Str
structure Wd where
  K : PySem.W.Frag
  mg : Str → Option Value
  J : Cn
  w : World
abbrev Wd.cl (Γ : Wd) (c : Nat) (C : Addr) : Prop := Γ.mg (Γ.J c).1 = some (.ref C)
def ExH (C : Addr) (a : Addr) : HO := .ext fun h => ∃ (oe : Obj) (vs : Array Value), h.get? a = some oe ∧ Zc (.ref C) none oe ∧ oe.data = .fields vs
/-- a dict with deep keys, by its one object -/
def NdO (w : World) (a : Addr) (es : List (NestedKey × Addr × Value)) : HO := .ext fun h => ∃ (ob : Obj) (ents : Array DictEntry) (ep : Nat), h.get? a = some ob ∧ ob.ExactDict ∧ ob.data = .dict ents ep ∧ ents.toList = es.map fun x => (⟨x.1.hash w, .ref x.2.1, x.2.2⟩ : DictEntry)
mutual
/-- data as a deep key -/
def nkD : Dt → Option NestedKey
  | .non => some .none
  | .bl b => some (.num (if b = true then 1 else 0))
  | .int i => some (.num i)
  | .str x => some (.text x)
  | .tup l => (nkDs l).map .tup
  | .lst _ => none
  | .lsk _ => none
  | .obj _ => none
  | .exc _ => none
def nkDs : List Dt → Option (List NestedKey)
  | [] => some []
  | d :: r => match nkD d, nkDs r with
    | some k, some ks => some (k :: ks)
    | _, _ => none
end
/-- texts as they may be here -/
def sok (x : Str) : Bool := PyData.strOk x && decide (x.length ≤ 1000000)
/-- keys as they may be here -/
def kOk : Key → Bool
  | .inl _ => true
  | .inr x => sok x
section
variable (Γ : Wd) (ρ : List Addr) (F : Hp)
mutual
def Den : Dt → V → Prop
  | .non, v => v = .non
  | .bl b, v => v = .bl b
  | .int i, v => v = .int i
  | .str x, v => v = .str x ∧ sok x = true
  | .tup l, v => l.length ≤ sizeLine ∧ ∃ a xs, v = .ref a ∧ F a = some (.tup xs) ∧ Dens l xs
  | .lst l, v => l.length ≤ sizeLine ∧ ∃ a xs, v = .ref a ∧ F a = some (.lst xs) ∧ Dens l xs
  | .lsk l, v => l.length ≤ sizeLine ∧ ∃ a xs, v = .ref a ∧ SqL Γ.K F a xs ∧ Dens l xs
  | .obj i, v => ∃ a, v = .ref a ∧ ρ[i]? = some a
  | .exc c, v => ∃ a C, v = .ref a ∧ Γ.cl c C ∧ F a = some (ExH C a)
def Dens : List Dt → List V → Prop
  | [], vs => vs = []
  | d :: ds, vs => ∃ v r, vs = v :: r ∧ Den d v ∧ Dens ds r
end
def DenK {κ : Type} : List (κ × Dt) → List (κ × V) → Prop
  | [], vs => vs = []
  | (f, d) :: ds, vs => ∃ v r, vs = (f, v) :: r ∧ Den Γ ρ F d v ∧ DenK ds r
def DenN : List (NestedKey × Dt) → List (NestedKey × Addr × Value) → Prop
  | [], es => es = []
  | (k, d) :: r, es => ∃ b u v dk t, es = (k, b, u) :: t ∧ nkD dk = some k ∧ Den Γ ρ F dk (.ref b) ∧ RelV v u ∧ Den Γ ρ F d v ∧ DenN r t
def MoOk (H : Hp) (a : Addr) : Mo → Prop
  | .did kvs => (kvs.length ≤ sizeLine ∧ (kvs.map (·.1)).Nodup ∧ ∀ kv ∈ kvs, kv.1.depth ≤ 8) ∧ (a == sysModules) = false ∧ ∃ es, H a = some (NdO Γ.w a es) ∧ DenN Γ ρ F kvs es
  | .lst l => l.length ≤ sizeLine ∧ ∃ xs, H a = some (.lst xs) ∧ Dens Γ ρ F l xs
  | .ins c fs => ∃ C dx vs, Γ.cl c C ∧ H a = some (.ins C dx ((Γ.J c).2.zip vs)) ∧ Dens Γ ρ F fs vs ∧ fs.length ≤ (Γ.J c).2.length ∧ (Γ.J c).2.length < 1000
  | .dic kvs => (kvs.length ≤ sizeLine ∧ ∀ kv ∈ kvs, kOk kv.1 = true) ∧ ∃ vs, H a = some (.dK vs) ∧ DenK Γ ρ F kvs vs
  | .dit kvs => (kvs.length ≤ sizeLine ∧ ∀ kv ∈ kvs, kv.1.all kOk = true) ∧ ∃ vs, H a = some (.dT vs) ∧ DenK Γ ρ F kvs vs
  | .dicL kvs => (kvs.length ≤ sizeLine ∧ ∀ kv ∈ kvs, kOk kv.1 = true) ∧ ∃ od vs, (H a = some (.frz od (.dK vs)) ∧ F a = some (.frz od (.dK vs))) ∧ DenK Γ ρ F kvs vs
  | .ditL kvs => (kvs.length ≤ sizeLine ∧ ∀ kv ∈ kvs, kv.1.all kOk = true) ∧ ∃ od vs, (H a = some (.frz od (.dT vs)) ∧ F a = some (.frz od (.dT vs))) ∧ DenK Γ ρ F kvs vs
end
structure LD (ρ : List Addr) (F : Hp) (ρ' : List Addr) (F' : Hp) : Prop where
  pre : ∃ r, ρ' = ρ ++ r
  sub : ∀ a o, F a = some o → F' a = some o
theorem LD.refl {ρ : List Addr} {F : Hp} : LD ρ F ρ F := ⟨⟨[], by simp⟩, fun _ _ h => h⟩
theorem LD.trans {ρ ρ1 ρ2 : List Addr} {F F1 F2 : Hp} (a : LD ρ F ρ1 F1) (b : LD ρ1 F1 ρ2 F2) : LD ρ F ρ2 F2 := by
  obtain ⟨⟨r, e⟩, h⟩ := a
  obtain ⟨⟨r2, e2⟩, h2⟩ := b
  exact ⟨⟨r ++ r2, by rw [e2, e, List.append_assoc]⟩, fun a o q => h2 a o (h a o q)⟩
theorem LD.get {ρ ρ1 : List Addr} {F F1 : Hp} (a : LD ρ F ρ1 F1) {i : Nat} {x : Addr} (h : ρ[i]? = some x) : ρ1[i]? = some x := by
  obtain ⟨⟨r, e⟩, _⟩ := a
  rw [e, List.getElem?_append_left (List.getElem?_eq_some_iff.mp h).1]
  exact h
theorem rd_sub {F F1 : Hp} {a : Addr} {u : HO} (h : ∀ a o, F a = some o → F1 a = some o) (r : Rd F a u) : Rd F1 a u := by
  rcases r with r | ⟨o, r⟩
  · exact .inl (h _ _ r)
  · exact .inr ⟨o, h _ _ r⟩
theorem sqL_sub {K : PySem.W.Frag} {F F1 : Hp} {a : Addr} {xs : List V} (h : ∀ a o, F a = some o → F1 a = some o) (r : SqL K F a xs) : SqL K F1 a xs := by
  rcases r with r | r
  · exact .inl (rd_sub h r)
  · exact .inr r
theorem sqT_sub {K : PySem.W.Frag} {F F1 : Hp} {a : Addr} {xs : List V} (h : ∀ a o, F a = some o → F1 a = some o) (r : SqT K F a xs) : SqT K F1 a xs := by
  rcases r with r | r
  · exact .inl (rd_sub h r)
  · exact .inr r
section
variable {Γ : Wd} {ρ ρ1 : List Addr} {F F1 : Hp}
mutual
theorem Den.monoD (l : LD ρ F ρ1 F1) : ∀ (d : Dt) (v : V), Den Γ ρ F d v → Den Γ ρ1 F1 d v
  | .non, v, h => by simpa only [Den] using h
  | .bl b, v, h => by simpa only [Den] using h
  | .int i, v, h => by simpa only [Den] using h
  | .str x, v, h => by simpa only [Den] using h
  | .tup ds, v, h => by
    simp only [Den] at h ⊢
    obtain ⟨z, a, xs, e, q, r⟩ := h
    exact ⟨z, a, xs, e, l.sub _ _ q, Dens.monoD l ds xs r⟩
  | .lst ds, v, h => by
    simp only [Den] at h ⊢
    obtain ⟨z, a, xs, e, q, r⟩ := h
    exact ⟨z, a, xs, e, l.sub _ _ q, Dens.monoD l ds xs r⟩
  | .lsk ds, v, h => by
    simp only [Den] at h ⊢
    obtain ⟨z, a, xs, e, q, r⟩ := h
    exact ⟨z, a, xs, e, sqL_sub l.sub q, Dens.monoD l ds xs r⟩
  | .obj i, v, h => by
    simp only [Den] at h ⊢
    obtain ⟨a, e, q⟩ := h
    exact ⟨a, e, l.get q⟩
  | .exc c, v, h => by
    simp only [Den] at h ⊢
    obtain ⟨a, C, e, q, r⟩ := h
    exact ⟨a, C, e, q, l.sub _ _ r⟩
theorem Dens.monoD (l : LD ρ F ρ1 F1) : ∀ (ds : List Dt) (vs : List V), Dens Γ ρ F ds vs → Dens Γ ρ1 F1 ds vs
  | [], vs, h => by simpa only [Dens] using h
  | d :: ds, vs, h => by
    simp only [Dens] at h ⊢
    obtain ⟨v, r, e, q, t⟩ := h
    exact ⟨v, r, e, Den.monoD l d v q, Dens.monoD l ds r t⟩
end
theorem DenK.monoD {κ : Type} (l : LD ρ F ρ1 F1) : ∀ {ds : List (κ × Dt)} {vs : List (κ × V)}, DenK Γ ρ F ds vs → DenK Γ ρ1 F1 ds vs
  | [], vs, h => h
  | (f, d) :: ds, vs, h => by
    obtain ⟨v, r, e, q, t⟩ := h
    exact ⟨v, r, e, Den.monoD l d v q, DenK.monoD l t⟩
theorem DenN.monoD (l : LD ρ F ρ1 F1) : ∀ {ds : List (NestedKey × Dt)} {es : List (NestedKey × Addr × Value)}, DenN Γ ρ F ds es → DenN Γ ρ1 F1 ds es
  | [], es, h => h
  | (k, d) :: ds, es, h => by
    obtain ⟨b, u, v, dk, t, e, h1, h2, h3, h4, h5⟩ := h
    exact ⟨b, u, v, dk, t, e, h1, Den.monoD l _ _ h2, h3, Den.monoD l _ _ h4, DenN.monoD l h5⟩
theorem MoOk.mono (l : LD ρ F ρ1 F1) {H H1 : Hp} {a : Addr} (e : H1 a = H a) : ∀ {mo : Mo}, MoOk Γ ρ F H a mo → MoOk Γ ρ1 F1 H1 a mo
  | .did kvs, ⟨z, y, es, h, q⟩ => ⟨z, y, es, by rw [e]; exact h, DenN.monoD l q⟩
  | .lst ds, ⟨z, xs, h, q⟩ => ⟨z, xs, by rw [e]; exact h, Dens.monoD l _ _ q⟩
  | .ins c fs, ⟨C, dx, vs, g, h, q, z⟩ => ⟨C, dx, vs, g, by rw [e]; exact h, Dens.monoD l _ _ q, z⟩
  | .dic kvs, ⟨z, vs, h, q⟩ => ⟨z, vs, by rw [e]; exact h, DenK.monoD l q⟩
  | .dit kvs, ⟨z, vs, h, q⟩ => ⟨z, vs, by rw [e]; exact h, DenK.monoD l q⟩
  | .dicL kvs, ⟨z, od, vs, h, q⟩ => ⟨z, od, vs, ⟨by rw [e]; exact h.1, l.sub _ _ h.2⟩, DenK.monoD l q⟩
  | .ditL kvs, ⟨z, od, vs, h, q⟩ => ⟨z, od, vs, ⟨by rw [e]; exact h.1, l.sub _ _ h.2⟩, DenK.monoD l q⟩
end
theorem MoOk.there {Γ : Wd} {ρ : List Addr} {F H : Hp} {a : Addr} : ∀ {mo : Mo}, MoOk Γ ρ F H a mo → ∃ o, H a = some o
  | .did kvs, ⟨_, _, es, h, q⟩ => ⟨_, h⟩
  | .lst ds, ⟨_, xs, h, q⟩ => ⟨_, h⟩
  | .ins c fs, ⟨C, dx, vs, g, h, q⟩ => ⟨_, h⟩
  | .dic kvs, ⟨_, vs, h, q⟩ => ⟨_, h⟩
  | .dit kvs, ⟨_, vs, h, q⟩ => ⟨_, h⟩
  | .dicL kvs, ⟨_, od, vs, h, q⟩ => ⟨_, h.1⟩
  | .ditL kvs, ⟨_, od, vs, h, q⟩ => ⟨_, h.1⟩
structure G (Γ : Wd) (ρ : List Addr) (F : Hp) (s : Sto) (H : Hp) : Prop where
  sub : ∀ a o, F a = some o → H a = some o
  len : ρ.length = s.length
  nd : ρ.Nodup
  sep : ∀ a ∈ ρ, F a = none ∨ ∃ od u, F a = some (.frz od u)
  at_ : ∀ (i : Nat) (a : Addr) (mo : Mo), ρ[i]? = some a → s[i]? = some mo → MoOk Γ ρ F H a mo
section
variable {Γ : Wd} {ρ ρ1 : List Addr} {F F1 H : Hp} {s : Sto}
theorem G.ex (g : G Γ ρ F s H) {a : Addr} (h : a ∈ ρ) : ∃ o, H a = some o := by
  obtain ⟨i, hi, e⟩ := List.mem_iff_getElem.mp h
  have hs : i < s.length := by rw [← g.len]; exact hi
  exact (g.at_ i a s[i] (by rw [← e]; exact List.getElem?_eq_getElem hi) (List.getElem?_eq_getElem hs)).there
theorem G.new_ne (g : G Γ ρ F s H) {p : Addr} (hp : H p = none) {a : Addr} (h : a ∈ ρ) : a ≠ p := fun e => by
  obtain ⟨o, q⟩ := g.ex h
  rw [e, hp] at q
  cases q
theorem G.fnone (g : G Γ ρ F s H) {p : Addr} (hp : H p = none) : F p = none := by
  cases e : F p with
  | none => rfl
  | some o => rw [g.sub _ _ e] at hp; cases hp
theorem LD.upd {p : Addr} {o : HO} (h : F p = none) : LD ρ F ρ (upd F p o) := ⟨⟨[], by simp⟩, fun a u e => by rw [upd_ne (fun z => by rw [z, h] at e; cases e)]; exact e⟩
theorem LD.push {p : Addr} : LD ρ F (ρ ++ [p]) F := ⟨⟨[p], rfl⟩, fun _ _ e => e⟩
/-- a new object that never changes -/
theorem G.frz (g : G Γ ρ F s H) {p : Addr} (o : HO) (hp : H p = none) : G Γ ρ (upd F p o) s (upd H p o) where
  sub := fun a u e => by
    by_cases h : a = p
    · subst h; rw [upd_same] at e ⊢; exact e
    · rw [upd_ne h] at e ⊢; exact g.sub _ _ e
  len := g.len
  nd := g.nd
  sep := fun a h => by rw [upd_ne (g.new_ne hp h)]; exact g.sep a h
  at_ := fun i a mo h1 h2 => (g.at_ i a mo h1 h2).mono (LD.upd (g.fnone hp)) (upd_ne (g.new_ne hp (List.mem_of_getElem? h1)))
/-- a new object that is forgotten at once -/
theorem G.skip (g : G Γ ρ F s H) {p : Addr} (o : HO) (hp : H p = none) : G Γ ρ F s (upd H p o) where
  sub := fun a u e => by
    rw [upd_ne (fun z => by rw [z, g.fnone hp] at e; cases e)]; exact g.sub _ _ e
  len := g.len
  nd := g.nd
  sep := g.sep
  at_ := fun i a mo h1 h2 => (g.at_ i a mo h1 h2).mono LD.refl (upd_ne (g.new_ne hp (List.mem_of_getElem? h1)))
/-- a new object of the store -/
theorem G.new (g : G Γ ρ F s H) {p : Addr} {o : HO} {mo : Mo} (hp : H p = none) (hm : MoOk Γ (ρ ++ [p]) F (upd H p o) p mo) : G Γ (ρ ++ [p]) F (s ++ [mo]) (upd H p o) where
  sub := fun a u e => by
    rw [upd_ne (fun z => by rw [z, g.fnone hp] at e; cases e)]; exact g.sub _ _ e
  len := by simp [g.len]
  nd := by
    refine List.nodup_append.mpr ⟨g.nd, by simp, fun a ha b hb => ?_⟩
    rw [List.mem_singleton] at hb
    rw [hb]
    exact g.new_ne hp ha
  sep := fun a h => by
    rcases List.mem_append.mp h with h | h
    · exact g.sep a h
    · rw [List.mem_singleton] at h; rw [h]; exact .inl (g.fnone hp)
  at_ := fun i a m h1 h2 => by
    by_cases hi : i < ρ.length
    · rw [List.getElem?_append_left hi] at h1
      rw [List.getElem?_append_left (by rw [← g.len]; exact hi)] at h2
      exact (g.at_ i a m h1 h2).mono LD.push (upd_ne (g.new_ne hp (List.mem_of_getElem? h1)))
    · rw [List.getElem?_append_right (by omega)] at h1
      rw [List.getElem?_append_right (by rw [← g.len]; omega)] at h2
      have e0 : i - ρ.length = 0 := by
        have := (List.getElem?_eq_some_iff.mp h1).1
        simp at this
        omega
      rw [e0] at h1
      rw [← g.len, e0] at h2
      have e1 : p = a := Option.some.inj h1
      have e2 : mo = m := Option.some.inj h2
      subst e1; subst e2
      exact hm
/-- an object of the store is written -/
theorem G.free (g : G Γ ρ F s H) {a : Addr} (h : a ∈ ρ) (nf : ∀ od u, H a ≠ some (.frz od u)) : F a = none := by
  rcases g.sep a h with h | ⟨od, u, h⟩
  · exact h
  · exact absurd (g.sub _ _ h) (nf od u)
theorem G.put (g : G Γ ρ F s H) {i : Nat} {a : Addr} {o : HO} {mo : Mo} (hi : ρ[i]? = some a) (nf : ∀ od u, H a ≠ some (.frz od u)) (hm : MoOk Γ ρ F (upd H a o) a mo) : G Γ ρ F (s.set i mo) (upd H a o) where
  sub := fun b u e => by
    rw [upd_ne (fun z => by rw [z, g.free (List.mem_of_getElem? hi) nf] at e; cases e)]; exact g.sub _ _ e
  len := by rw [List.length_set]; exact g.len
  nd := g.nd
  sep := g.sep
  at_ := fun j b m h1 h2 => by
    by_cases hj : i = j
    · subst hj
      have e : a = b := Option.some.inj (hi.symm.trans h1)
      subst e
      have hl : i < s.length := by rw [← g.len]; exact (List.getElem?_eq_some_iff.mp hi).1
      rw [List.getElem?_set_self hl] at h2
      cases h2
      exact hm
    · rw [List.getElem?_set_ne hj] at h2
      refine (g.at_ j b m h1 h2).mono LD.refl (upd_ne fun z => hj ?_)
      subst z
      exact nd_ix g.nd hi h1
end
/-- what may have come to pass: more is known, what was not the store's stands as it stood -/
structure LE (ρ : List Addr) (F H : Hp) (ρ' : List Addr) (F' H' : Hp) : Prop where
  ld : LD ρ F ρ' F'
  fr : ∀ a, a ∈ ρ' → a ∈ ρ ∨ H a = none
  ff : ∀ a o, F' a = some o → (∃ u, F a = some u) ∨ H a = none ∨ (a ∉ ρ ∧ ∃ xs, H a = some (.tup xs))
  keep : ∀ a o, H a = some o → a ∉ ρ → H' a = some o
  there : ∀ a o, H a = some o → ∃ u, H' a = some u
theorem LE.refl {ρ : List Addr} {F H : Hp} : LE ρ F H ρ F H := ⟨LD.refl, fun _ h => .inl h, fun _ o h => .inl ⟨o, h⟩, fun _ _ h _ => h, fun _ o h => ⟨o, h⟩⟩
theorem LE.gone {ρ ρ1 : List Addr} {F H F1 H1 : Hp} (l : LE ρ F H ρ1 F1 H1) {a : Addr} (h : H1 a = none) : H a = none := by
  cases e : H a with
  | none => rfl
  | some o =>
    obtain ⟨u, q⟩ := l.there a o e
    rw [h] at q
    cases q
theorem LE.sub {ρ ρ1 : List Addr} {F H F1 H1 : Hp} (l : LE ρ F H ρ1 F1 H1) {a : Addr} (h : a ∈ ρ) : a ∈ ρ1 := by
  obtain ⟨r, e⟩ := l.ld.pre
  rw [e]
  exact List.mem_append_left _ h
theorem LE.trans {ρ ρ1 ρ2 : List Addr} {F F1 F2 H H1 H2 : Hp} (a : LE ρ F H ρ1 F1 H1) (b : LE ρ1 F1 H1 ρ2 F2 H2) : LE ρ F H ρ2 F2 H2 where
  ld := a.ld.trans b.ld
  fr := fun x h => by
    rcases b.fr x h with h | h
    · exact a.fr x h
    · exact .inr (a.gone h)
  ff := fun x o h => by
    rcases b.ff x o h with ⟨u, h⟩ | h | ⟨n, xs, h⟩
    · exact a.ff x u h
    · exact .inr (.inl (a.gone h))
    · have n0 : x ∉ ρ := fun z => n (a.sub z)
      cases e : H x with
      | none => exact .inr (.inl rfl)
      | some u =>
        have := a.keep x u e n0
        rw [h] at this
        cases this
        exact .inr (.inr ⟨n0, xs, rfl⟩)
  keep := fun x o h n => b.keep x o (a.keep x o h n) fun z => by
    rcases a.fr x z with z | z
    · exact n z
    · rw [h] at z; cases z
  there := fun x o h => by
    obtain ⟨u, q⟩ := a.there x o h
    exact b.there x u q
theorem Den.mono {Γ : Wd} {ρ ρ1 : List Addr} {F F1 H H1 : Hp} (l : LE ρ F H ρ1 F1 H1) (d : Dt) (v : V) (h : Den Γ ρ F d v) : Den Γ ρ1 F1 d v := Den.monoD l.ld d v h
theorem Dens.mono {Γ : Wd} {ρ ρ1 : List Addr} {F F1 H H1 : Hp} (l : LE ρ F H ρ1 F1 H1) (d : List Dt) (v : List V) (h : Dens Γ ρ F d v) : Dens Γ ρ1 F1 d v := Dens.monoD l.ld d v h
section
variable {Γ : Wd} {ρ : List Addr} {F H : Hp} {s : Sto}
theorem upd_keep {a p : Addr} {o u : HO} (hp : H p = none) (h : H a = some o) : upd H p u a = some o := by rw [upd_ne (ne_of_none h hp)]; exact h
theorem LE.frz (g : G Γ ρ F s H) {p : Addr} {o : HO} (hp : H p = none) : LE ρ F H ρ (upd F p o) (upd H p o) where
  ld := LD.upd (g.fnone hp)
  fr := fun _ h => .inl h
  ff := fun a u h => by
    by_cases e : a = p
    · subst e; exact .inr (.inl hp)
    · rw [upd_ne e] at h; exact .inl ⟨u, h⟩
  keep := fun a u h _ => upd_keep hp h
  there := fun a u h => ⟨u, upd_keep hp h⟩
theorem LE.new {p : Addr} {o : HO} (hp : H p = none) : LE ρ F H (ρ ++ [p]) F (upd H p o) where
  ld := LD.push
  fr := fun a h => by
    rcases List.mem_append.mp h with h | h
    · exact .inl h
    · rw [List.mem_singleton] at h; rw [h]; exact .inr hp
  ff := fun a u h => .inl ⟨u, h⟩
  keep := fun a u h _ => upd_keep hp h
  there := fun a u h => ⟨u, upd_keep hp h⟩
theorem LE.skip {p : Addr} {o : HO} (hp : H p = none) : LE ρ F H ρ F (upd H p o) where
  ld := LD.refl
  fr := fun _ h => .inl h
  ff := fun a u h => .inl ⟨u, h⟩
  keep := fun a u h _ => upd_keep hp h
  there := fun a u h => ⟨u, upd_keep hp h⟩
theorem LE.put {a : Addr} {o : HO} (ha : a ∈ ρ) : LE ρ F H ρ F (upd H a o) where
  ld := LD.refl
  fr := fun _ h => .inl h
  ff := fun a u h => .inl ⟨u, h⟩
  keep := fun b u h n => by rw [upd_ne (fun e => n (by rw [e]; exact ha))]; exact h
  there := fun b u h => by
    by_cases e : b = a
    · subst e; exact ⟨o, upd_same⟩
    · exact ⟨u, by rw [upd_ne e]; exact h⟩
/-- an object that is neither the store's nor known is written -/
theorem G.other (g : G Γ ρ F s H) {p : Addr} (o : HO) (hp : p ∉ ρ) (hf : F p = none) : G Γ ρ F s (upd H p o) where
  sub := fun a u e => by
    rw [upd_ne (fun z => by rw [z, hf] at e; cases e)]; exact g.sub _ _ e
  len := g.len
  nd := g.nd
  sep := g.sep
  at_ := fun i a mo h1 h2 => (g.at_ i a mo h1 h2).mono LD.refl (upd_ne fun z => hp (by rw [← z]; exact List.mem_of_getElem? h1))
end
/-! ### meanings -/
abbrev En := List (Option Dt)
abbrev Ex := En → Sto → Out Dt
abbrev Tx := En → Sto → Out Bool
inductive Fl where
  | nx (e : En) | rt (d : Dt) | bk (e : En) | ct (e : En)
inductive Res where
  | fl (f : Fl) (s : Sto) | exc (c : Nat) (e : En) (s : Sto) | bad
abbrev Sx := En → Sto → Res
structure Sl (Γ : Wd) (ρ : List Addr) (F : Hp) (env : En) (σ : St) : Prop where
  len : env.length = σ.length
  at_ : ∀ (i : Nat) (d : Dt), env[i]? = some (some d) → ∃ v : V, σ[i]? = some (some v) ∧ Den Γ ρ F d v
theorem Sl.mono {Γ : Wd} {ρ ρ1 : List Addr} {F F1 H H1 : Hp} {env : En} {σ : St} (h : Sl Γ ρ F env σ) (l : LE ρ F H ρ1 F1 H1) : Sl Γ ρ1 F1 env σ :=
  ⟨h.len, fun i d e => by obtain ⟨v, q, r⟩ := h.at_ i d e; exact ⟨v, q, Den.mono l d v r⟩⟩
theorem Sl.set {Γ : Wd} {ρ : List Addr} {F : Hp} {env : En} {σ : St} (h : Sl Γ ρ F env σ) {d : Dt} {v : V} (r : Den Γ ρ F d v) (i : Nat) : Sl Γ ρ F (env.set i (some d)) (σ.set i (some v)) := by
  refine ⟨by rw [List.length_set, List.length_set]; exact h.len, fun j e q => ?_⟩
  by_cases hj : i = j
  · subst hj
    have hl : i < env.length := by
      have := (List.getElem?_eq_some_iff.mp q).1
      rw [List.length_set] at this
      exact this
    rw [List.getElem?_set_self hl] at q
    have e1 : d = e := by injection q with q; injection q
    subst e1
    exact ⟨v, List.getElem?_set_self (by rw [← h.len]; exact hl), r⟩
  · rw [List.getElem?_set_ne hj] at q
    rw [List.getElem?_set_ne hj]
    exact h.at_ j e q
theorem Sl.unset {Γ : Wd} {ρ : List Addr} {F : Hp} {env : En} {σ : St} (h : Sl Γ ρ F env σ) (i : Nat) : Sl Γ ρ F (env.set i none) (σ.set i none) := by
  refine ⟨by rw [List.length_set, List.length_set]; exact h.len, fun j e q => ?_⟩
  by_cases hj : i = j
  · subst hj
    have hl : i < env.length := by
      have := (List.getElem?_eq_some_iff.mp q).1
      rw [List.length_set] at this
      exact this
    rw [List.getElem?_set_self hl] at q
    injection q with q
    cases q
  · rw [List.getElem?_set_ne hj] at q
    rw [List.getElem?_set_ne hj]
    exact h.at_ j e q
/-- what is to be shown behind an outcome -/
def Po {α β : Type} (Γ : Wd) (Rl : List Addr → Hp → α → β → Prop) (ρ : List Addr) (F H : Hp) (Q : β → Hp → Prop) (E : Value → Hp → Prop) : Out α → Prop
  | .ok d s => ∀ ρ' F' H' v, LE ρ F H ρ' F' H' → G Γ ρ' F' s H' → Rl ρ' F' d v → Q v H'
  | .exc c s => ∀ ρ' F' H' C, LE ρ F H ρ' F' H' → G Γ ρ' F' s H' → Γ.cl c C → E (.ref C) H'
  | .bad => False
abbrev EPo (Γ : Wd) := Po Γ (Den Γ)
abbrev APo (Γ : Wd) := Po Γ (Dens Γ)
abbrev BPo (Γ : Wd) := Po Γ (fun _ _ (a : Bool) (b : Bool) => a = b)
theorem Po.mono {α β : Type} {Γ : Wd} {Rl : List Addr → Hp → α → β → Prop} {ρ ρ1 : List Addr} {F F1 H H1 : Hp} {Q Q' : β → Hp → Prop} {E E' : Value → Hp → Prop} (l : LE ρ F H ρ1 F1 H1) (hq : ∀ v H, Q v H → Q' v H) (he : ∀ v H, E v H → E' v H) :
    ∀ {o : Out α}, Po Γ Rl ρ F H Q E o → Po Γ Rl ρ1 F1 H1 Q' E' o
  | .ok d s, h => fun ρ' F' H' v l' g r => hq _ _ (h ρ' F' H' v (l.trans l') g r)
  | .exc c s, h => fun ρ' F' H' C l' g r => he _ _ (h ρ' F' H' C (l.trans l') g r)
  | .bad, h => h
/-- one computation behind another -/
def bnd {α β : Type} (m : Sto → Out α) (k : α → Sto → Out β) (s : Sto) : Out β := match m s with
  | .ok a s' => k a s'
  | .exc c s' => .exc c s'
  | .bad => .bad
@[simp] theorem bnd_ok {α β : Type} {m : Sto → Out α} {k : α → Sto → Out β} {s s' : Sto} {a : α} (h : m s = .ok a s') : bnd m k s = k a s' := by unfold bnd; rw [h]
theorem Po.bind {α β γ δ : Type} {Γ : Wd} {R1 : List Addr → Hp → α → β → Prop} {R2 : List Addr → Hp → γ → δ → Prop} {ρ : List Addr} {F H : Hp} {Q : δ → Hp → Prop} {Q1 : β → Hp → Prop} {E : Value → Hp → Prop} {m : Sto → Out α} {k : α → Sto → Out γ} {s : Sto}
    (h : Po Γ R2 ρ F H Q E (bnd m k s)) (hk : ∀ a s' ρ' F' H' v, m s = .ok a s' → LE ρ F H ρ' F' H' → G Γ ρ' F' s' H' → R1 ρ' F' a v → Po Γ R2 ρ' F' H' Q E (k a s') → Q1 v H') : Po Γ R1 ρ F H Q1 E (m s) := by
  unfold bnd at h
  cases e : m s with
  | ok a s' =>
    rw [e] at h
    exact fun ρ' F' H' v l g r => hk a s' ρ' F' H' v e l g r (h.mono l (fun _ _ q => q) fun _ _ q => q)
  | exc c s' => rw [e] at h; exact h
  | bad => rw [e] at h; exact h
/-- the readings that a meaning gives -/
def tE (Γ : Wd) (W : WX) (f : Ex) : TE := fun σ H Q => ∃ env ρ F s, G Γ ρ F s H ∧ Sl Γ ρ F env σ ∧ EPo Γ ρ F H Q (fun c H' => W c none σ H') (f env s)
def tT (Γ : Wd) (W : WX) (f : Tx) : TT := fun σ H Q => ∃ env ρ F s, G Γ ρ F s H ∧ Sl Γ ρ F env σ ∧ BPo Γ ρ F H Q (fun c H' => W c none σ H') (f env s)
/-- several, from the left -/
def evs : List Ex → En → Sto → Out (List Dt)
  | [], _, s => .ok [] s
  | f :: fs, env, s => bnd (f env) (fun d => bnd (evs fs env) fun ds s => .ok (d :: ds) s) s
def tA (Γ : Wd) (W : WX) (f : List Ex) : TA := fun σ H Q => ∃ env ρ F s, G Γ ρ F s H ∧ Sl Γ ρ F env σ ∧ APo Γ ρ F H Q (fun c H' => W c none σ H') (evs f env s)
def FPo (Γ : Wd) (W : WX) (ρ : List Addr) (F H : Hp) (D : Ends) : Res → Prop
  | .fl (.nx e) s => ∀ ρ' F' H' σ, LE ρ F H ρ' F' H' → G Γ ρ' F' s H' → Sl Γ ρ' F' e σ → D.nx σ H'
  | .fl (.rt d) s => ∀ ρ' F' H' v, LE ρ F H ρ' F' H' → G Γ ρ' F' s H' → Den Γ ρ' F' d v → D.rt v H'
  | .fl (.bk e) s => ∀ ρ' F' H' σ, LE ρ F H ρ' F' H' → G Γ ρ' F' s H' → Sl Γ ρ' F' e σ → D.bk σ H'
  | .fl (.ct e) s => ∀ ρ' F' H' σ, LE ρ F H ρ' F' H' → G Γ ρ' F' s H' → Sl Γ ρ' F' e σ → D.ct σ H'
  | .exc c e s => ∀ ρ' F' H' σ C, LE ρ F H ρ' F' H' → G Γ ρ' F' s H' → Sl Γ ρ' F' e σ → Γ.cl c C → W (.ref C) none σ H'
  | .bad => False
def tS (Γ : Wd) (W : WX) (f : Sx) : TS := fun D σ H => ∃ env ρ F s, G Γ ρ F s H ∧ Sl Γ ρ F env σ ∧ FPo Γ W ρ F H D (f env s)
theorem FPo.le {Γ : Wd} {W : WX} {ρ ρ1 : List Addr} {F F1 H H1 : Hp} {D : Ends} (l : LE ρ F H ρ1 F1 H1) : ∀ {r : Res}, FPo Γ W ρ F H D r → FPo Γ W ρ1 F1 H1 D r
  | .fl (.nx e) s, h => fun ρ' F' H' σ l' g r => h ρ' F' H' σ (l.trans l') g r
  | .fl (.rt d) s, h => fun ρ' F' H' σ l' g r => h ρ' F' H' σ (l.trans l') g r
  | .fl (.bk e) s, h => fun ρ' F' H' σ l' g r => h ρ' F' H' σ (l.trans l') g r
  | .fl (.ct e) s, h => fun ρ' F' H' σ l' g r => h ρ' F' H' σ (l.trans l') g r
  | .exc c e s, h => fun ρ' F' H' σ C l' g r => h ρ' F' H' σ C (l.trans l') g r
  | .bad, h => h
theorem PE.imp {X : Cx} {e : Expr} {t t' : TE} (h : PE X e t) (k : ∀ σ H Q, t' σ H Q → t σ H Q) : PE X e t' := ⟨fun pins s σ H Q I q => h.run pins s σ H Q I (k σ H Q q)⟩
theorem PT.imp {X : Cx} {e : Expr} {t t' : TT} (h : PT X e t) (k : ∀ σ H Q, t' σ H Q → t σ H Q) : PT X e t' := ⟨fun pins s σ H Q I q => h.run pins s σ H Q I (k σ H Q q)⟩
theorem PW.imp {X : Cx} {e : Expr} {t t' : TT} (h : PW X e t) (k : ∀ σ H Q, t' σ H Q → t σ H Q) : PW X e t' := ⟨fun wh pins s σ H Q I q => h.run wh pins s σ H Q I (k σ H Q q)⟩
theorem PA.imp {X : Cx} {e : List Expr} {t t' : TA} (h : PA X e t) (k : ∀ σ H Q, t' σ H Q → t σ H Q) : PA X e t' := ⟨fun pos pins s σ H Q I q => h.run pos pins s σ H Q I (k σ H Q q)⟩
theorem PS.imp {X : Cx} {e : Stmt} {t t' : TS} (h : PS X e t) (k : ∀ D σ H, t' D σ H → t D σ H) : PS X e t' := ⟨fun pins s σ H D I q => h.run pins s σ H D I (k D σ H q)⟩
theorem PSs.imp {X : Cx} {e : List Stmt} {t t' : TS} (h : PSs X e t) (k : ∀ D σ H, t' D σ H → t D σ H) : PSs X e t' := ⟨fun pins s σ H D I q => h.run pins s σ H D I (k D σ H q)⟩
abbrev wd (J : Cn) (X : Cx) : Wd := ⟨X.K, X.mg, J, X.w⟩
abbrev ES (J : Cn) (X : Cx) (W : WX) (e : Expr) (f : Ex) : Prop := PE X e (tE (wd J X) W f)
abbrev TSo (J : Cn) (X : Cx) (W : WX) (e : Expr) (f : Tx) : Prop := PT X e (tT (wd J X) W f)
abbrev WSo (J : Cn) (X : Cx) (W : WX) (e : Expr) (f : Tx) : Prop := PW X e (tT (wd J X) W f)
abbrev ASo (J : Cn) (X : Cx) (W : WX) (e : List Expr) (f : List Ex) : Prop := PA X e (tA (wd J X) W f)
abbrev SS (J : Cn) (X : Cx) (W : WX) (e : Stmt) (f : Sx) : Prop := PS X e (tS (wd J X) W f)
abbrev SSs (J : Cn) (X : Cx) (W : WX) (e : List Stmt) (f : Sx) : Prop := PSs X e (tS (wd J X) W f)
end Pd
namespace Pd
open PySem L2
/-! ### reading data -/
def asL (s : Sto) : Dt → Option (List Dt)
  | .lst l => some l
  | .lsk l => some l
  | .obj i => match s[i]? with
    | some (.lst l) => some l
    | _ => none
  | _ => none
def asT : Dt → Option (List Dt)
  | .tup l => some l
  | _ => none
def asQ (s : Sto) (d : Dt) : Option (List Dt) := match d with
  | .tup l => some l
  | _ => asL s d
section
variable {Γ : Wd} {ρ : List Addr} {F H : Hp} {s : Sto}
theorem G.sqL (g : G Γ ρ F s H) {d : Dt} {v : V} {l : List Dt} (r : Den Γ ρ F d v) (h : asL s d = some l) : ∃ a xs, v = .ref a ∧ SqL Γ.K H a xs ∧ Dens Γ ρ F l xs ∧ l.length ≤ sizeLine := by
  cases d with
  | lst l' =>
    simp only [Den] at r
    simp only [asL, Option.some.injEq] at h
    subst h
    obtain ⟨z, a, xs, e, q, t⟩ := r
    exact ⟨a, xs, e, SqL.of (g.sub _ _ q), t, z⟩
  | lsk l' =>
    simp only [Den] at r
    simp only [asL, Option.some.injEq] at h
    subst h
    obtain ⟨z, a, xs, e, q, t⟩ := r
    exact ⟨a, xs, e, sqL_sub g.sub q, t, z⟩
  | obj i =>
    simp only [Den] at r
    obtain ⟨a, e, q⟩ := r
    simp only [asL] at h
    split at h
    · rename_i l' hs
      cases h
      obtain ⟨z, xs, ha, t⟩ := g.at_ i a _ q hs
      exact ⟨a, xs, e, SqL.of ha, t, z⟩
    · cases h
  | _ => simp [asL] at h
theorem G.sqT (g : G Γ ρ F s H) {d : Dt} {v : V} {l : List Dt} (r : Den Γ ρ F d v) (h : asT d = some l) : ∃ a xs, v = .ref a ∧ SqT Γ.K H a xs ∧ Dens Γ ρ F l xs ∧ l.length ≤ sizeLine := by
  cases d with
  | tup l' =>
    simp only [Den] at r
    simp only [asT, Option.some.injEq] at h
    subst h
    obtain ⟨z, a, xs, e, q, t⟩ := r
    exact ⟨a, xs, e, SqT.of (g.sub _ _ q), t, z⟩
  | _ => simp [asT] at h
theorem G.sqQ (g : G Γ ρ F s H) {d : Dt} {v : V} {l : List Dt} (r : Den Γ ρ F d v) (h : asQ s d = some l) : ∃ a xs, v = .ref a ∧ (SqL Γ.K H a xs ∨ SqT Γ.K H a xs) ∧ Dens Γ ρ F l xs ∧ l.length ≤ sizeLine := by
  cases d with
  | tup l' =>
    obtain ⟨a, xs, e, q, t⟩ := g.sqT r (l := l) (by simpa [asQ, asT] using h)
    exact ⟨a, xs, e, .inr q, t⟩
  | _ =>
    obtain ⟨a, xs, e, q, t⟩ := g.sqL r (l := l) (by simpa [asQ] using h)
    exact ⟨a, xs, e, .inl q, t⟩
theorem Dens.length : ∀ {ds : List Dt} {vs : List V}, Dens Γ ρ F ds vs → ds.length = vs.length
  | [], vs, h => by simp only [Dens] at h; rw [h]; rfl
  | d :: ds, vs, h => by
    simp only [Dens] at h
    obtain ⟨v, r, e, q, t⟩ := h
    rw [e, List.length_cons, List.length_cons, Dens.length t]
theorem Dens.get : ∀ {ds : List Dt} {vs : List V} {i : Nat} {d : Dt}, Dens Γ ρ F ds vs → ds[i]? = some d → ∃ v, vs[i]? = some v ∧ Den Γ ρ F d v
  | [], vs, i, d, h, e => by simp at e
  | d' :: ds, vs, i, d, h, e => by
    simp only [Dens] at h
    obtain ⟨v, r, e', q, t⟩ := h
    subst e'
    cases i with
    | zero => simp at e; subst e; exact ⟨v, rfl, q⟩
    | succ i =>
      obtain ⟨u, hu, q2⟩ := Dens.get (i := i) (d := d) t (by simpa using e)
      exact ⟨u, by simpa using hu, q2⟩
theorem Dens.back : ∀ {ds : List Dt} {vs : List V} {i : Nat} {v : V}, Dens Γ ρ F ds vs → vs[i]? = some v → ∃ d, ds[i]? = some d ∧ Den Γ ρ F d v
  | [], vs, i, d, h, e => by simp only [Dens] at h; subst h; simp at e
  | d' :: ds, vs, i, d, h, e => by
    simp only [Dens] at h
    obtain ⟨v, r, e', q, t⟩ := h
    subst e'
    cases i with
    | zero => simp at e; subst e; exact ⟨d', rfl, q⟩
    | succ i =>
      obtain ⟨u, hu, q2⟩ := Dens.back (i := i) (v := d) t (by simpa using e)
      exact ⟨u, by simpa using hu, q2⟩
theorem Dens.append : ∀ {ds es : List Dt} {vs us : List V}, Dens Γ ρ F ds vs → Dens Γ ρ F es us → Dens Γ ρ F (ds ++ es) (vs ++ us)
  | [], es, vs, us, h, k => by simp only [Dens] at h; subst h; exact k
  | d :: ds, es, vs, us, h, k => by
    simp only [Dens] at h
    obtain ⟨v, r, e, q, t⟩ := h
    subst e
    show Dens Γ ρ F (d :: (ds ++ es)) (v :: (r ++ us))
    simp only [Dens]
    exact ⟨v, _, rfl, q, Dens.append t k⟩
theorem Dens.one {d : Dt} {v : V} (h : Den Γ ρ F d v) : Dens Γ ρ F [d] [v] := by
  simp only [Dens]
  exact ⟨v, [], rfl, h, rfl⟩
theorem Dens.drop : ∀ {ds : List Dt} {vs : List V} (n : Nat), Dens Γ ρ F ds vs → Dens Γ ρ F (ds.drop n) (vs.drop n)
  | [], vs, n, h => by simp only [Dens] at h; subst h; simp [Dens]
  | d :: ds, vs, 0, h => h
  | d :: ds, vs, n + 1, h => by
    simp only [Dens] at h
    obtain ⟨v, r, e, q, t⟩ := h
    subst e
    exact Dens.drop n t
theorem Dens.take : ∀ {ds : List Dt} {vs : List V} (n : Nat), Dens Γ ρ F ds vs → Dens Γ ρ F (ds.take n) (vs.take n)
  | [], vs, n, h => by simp only [Dens] at h; subst h; simp [Dens]
  | d :: ds, vs, 0, h => by simp [Dens]
  | d :: ds, vs, n + 1, h => by
    simp only [Dens] at h
    obtain ⟨v, r, e, q, t⟩ := h
    subst e
    show Dens Γ ρ F (d :: ds.take n) (v :: r.take n)
    simp only [Dens]
    exact ⟨v, _, rfl, q, Dens.take n t⟩
theorem Dens.set {d : Dt} {v : V} (hd : Den Γ ρ F d v) : ∀ {ds : List Dt} {vs : List V} (n : Nat), Dens Γ ρ F ds vs → Dens Γ ρ F (ds.set n d) (vs.set n v)
  | [], vs, n, h => by simp only [Dens] at h; subst h; simp [Dens]
  | d' :: ds, vs, 0, h => by
    simp only [Dens] at h
    obtain ⟨v', r, e, q, t⟩ := h
    subst e
    show Dens Γ ρ F (d :: ds) (v :: r)
    simp only [Dens]
    exact ⟨v, _, rfl, hd, t⟩
  | d' :: ds, vs, n + 1, h => by
    simp only [Dens] at h
    obtain ⟨v', r, e, q, t⟩ := h
    subst e
    show Dens Γ ρ F (d' :: ds.set n d) (v' :: r.set n v)
    simp only [Dens]
    exact ⟨v', _, rfl, q, Dens.set hd n t⟩
theorem Dens.eraseIdx : ∀ {ds : List Dt} {vs : List V} (n : Nat), Dens Γ ρ F ds vs → Dens Γ ρ F (ds.eraseIdx n) (vs.eraseIdx n)
  | [], vs, n, h => by simp only [Dens] at h; subst h; simp [Dens]
  | d' :: ds, vs, 0, h => by
    simp only [Dens] at h
    obtain ⟨v', r, e, q, t⟩ := h
    subst e
    exact t
  | d' :: ds, vs, n + 1, h => by
    simp only [Dens] at h
    obtain ⟨v', r, e, q, t⟩ := h
    subst e
    show Dens Γ ρ F (d' :: ds.eraseIdx n) (v' :: r.eraseIdx n)
    simp only [Dens]
    exact ⟨v', _, rfl, q, Dens.eraseIdx n t⟩
end
/-! ### expressions -/
section
variable {J : Cn} {X : Cx} {W : WX} {a b c e : Expr} {es : List Expr} {fa fb fc : Ex} {pos : Pos}
def eVar (i : Nat) : Ex := fun env s => match env[i]? with
  | some (some d) => .ok d s
  | _ => .bad
theorem es_var {i : Nat} (h : PE X e (tVar i)) : ES J X W e (eVar i) := by
  refine PE.imp h fun σ H Q ⟨env, ρ, F, s, g, l, k⟩ => ?_
  unfold eVar at k
  split at k
  · rename_i d hd
    obtain ⟨v, q, r⟩ := l.at_ i d hd
    exact ⟨v, q, k ρ F H v LE.refl g r⟩
  · exact k.elim
def eC (d : Dt) : Ex := fun _ s => .ok d s
theorem es_c {d : Dt} {v : V} (h : PE X e (tC v)) (hd : ∀ ρ F, Den (wd J X) ρ F d v) : ES J X W e (eC d) :=
  PE.imp h fun σ H Q ⟨env, ρ, F, s, g, l, k⟩ => k ρ F H v LE.refl g (hd ρ F)
theorem es_int {i : Int} {j} : ES J X W (.Constant (.int i) j pos) (eC (.int i)) := es_c pe_int fun _ _ => by simp only [Den]
theorem es_bl {i : Bool} {j} : ES J X W (.Constant (.bool i) j pos) (eC (.bl i)) := es_c pe_bl fun _ _ => by simp only [Den]
theorem es_non {j} : ES J X W (.Constant .none j pos) (eC .non) := es_c pe_non fun _ _ => by simp only [Den]
theorem es_str {x : Str} {j} (h : sok x = true := by decide +kernel) : ES J X W (.Constant (.str x) j pos) (eC (.str x)) := es_c pe_str fun _ _ => by simp only [Den]; exact ⟨trivial, h⟩
theorem es_gint {x : Str} {i : Int} {t : Tok} (hg : Gl X x) (hm : X.mg x = some (.int i t)) (hd : (x == ("__debug__" : Str)) = false := by decide) : ES J X W (.Name x pos) (eC (.int i)) := es_c (v := .int i) (pe_glob hg hm ⟨t, rfl⟩ hd) fun _ _ => by simp only [Den]
theorem es_gstr {x z : Str} {t : Tok} (hg : Gl X x) (hm : X.mg x = some (.str z t)) (hz : sok z = true := by decide +kernel) (hd : (x == ("__debug__" : Str)) = false := by decide) : ES J X W (.Name x pos) (eC (.str z)) := es_c (v := .str z) (pe_glob hg hm ⟨t, rfl⟩ hd) fun _ _ => by simp only [Den]; exact ⟨trivial, hz⟩
/-- an operation of two places -/
def eOp (op : Dt → Dt → Sto → Out Dt) (fa fb : Ex) : Ex := fun env => bnd (fa env) fun x => bnd (fb env) fun y => op x y
def OpS (Γ : Wd) (r : R2) (op : Dt → Dt → Sto → Out Dt) : Prop := ∀ ρ F s H x y dx dy Q E, G Γ ρ F s H → Den Γ ρ F dx x → Den Γ ρ F dy y → EPo Γ ρ F H Q E (op dx dy s) → r x y H Q
theorem tE_op {Γ : Wd} {r : R2} {op : Dt → Dt → Sto → Out Dt} (ho : OpS Γ r op) {σ : St} {H : Hp} {Q : VK} (h : tE Γ W (eOp op fa fb) σ H Q) : tOp r (tE Γ W fa) (tE Γ W fb) σ H Q := by
  obtain ⟨env, ρ, F, s, g, l, k⟩ := h
  refine ⟨env, ρ, F, s, g, l, Po.bind k fun x s1 ρ1 F1 H1 v e1 l1 g1 r1 k1 => ?_⟩
  refine ⟨env, ρ1, F1, s1, g1, l.mono l1, Po.bind k1 fun y s2 ρ2 F2 H2 u e2 l2 g2 r2 k2 => ?_⟩
  exact ho ρ2 F2 s2 H2 v u x y Q _ g2 (Den.mono l2 _ _ r1) r2 k2
theorem es_op {op : Operator} {r : R2} {f : Dt → Dt → Sto → Out Dt} (hr : OpR X (binaryOp op) r) (ho : OpS (wd J X) r f) (ha : ES J X W a fa) (hb : ES J X W b fb) : ES J X W (.BinOp a op b pos) (eOp f fa fb) :=
  PE.imp (pe_op hr ha hb) fun _ _ _ h => tE_op ho h
/-- an operation of one place -/
def eUn (op : Dt → Sto → Out Dt) (fa : Ex) : Ex := fun env => bnd (fa env) op
def UnS (Γ : Wd) (r : V → Hp → VK → Prop) (op : Dt → Sto → Out Dt) : Prop := ∀ ρ F s H x dx Q E, G Γ ρ F s H → Den Γ ρ F dx x → EPo Γ ρ F H Q E (op dx s) → r x H Q
theorem es_un {op : UnaryOp} {r : V → Hp → VK → Prop} {f : Dt → Sto → Out Dt} (hr : UnR X (unaryOp op) r) (ho : UnS (wd J X) r f) (ha : ES J X W a fa) : ES J X W (.UnaryOp op a pos) (eUn f fa) :=
  PE.imp (pe_un hr ha) fun σ H Q ⟨env, ρ, F, s, g, l, k⟩ => ⟨env, ρ, F, s, g, l, Po.bind k fun x s1 ρ1 F1 H1 v e1 l1 g1 r1 k1 => ho ρ1 F1 s1 H1 v x Q _ g1 r1 k1⟩
/-! ints -/
def iOp (g : Int → Int → Dt) (ok : Int → Int → Bool) : Dt → Dt → Sto → Out Dt
  | .int i, .int j, s => if ok i j then .ok (g i j) s else .bad
  | _, _, _ => .bad
theorem iOp_some {Γ : Wd} {C : Int → Int → Prop} {gv : Int → Int → V} {gd : Int → Int → Dt} {ok : Int → Int → Bool} (hc : ∀ i j, ok i j = true → C i j) (hd : ∀ ρ F i j, Den Γ ρ F (gd i j) (gv i j)) : OpS Γ (rI C gv) (iOp gd ok) := by
  intro ρ F s H x y dx dy Q E g rx ry k
  cases dx with
  | int i =>
    cases dy with
    | int j =>
      simp only [Den] at rx ry
      simp only [iOp] at k
      split at k
      · rename_i h
        exact ⟨i, j, rx, ry, hc _ _ h, k ρ F H _ LE.refl g (hd ρ F i j)⟩
      · exact k.elim
    | _ => exact False.elim k
  | _ => exact False.elim k
theorem iOp_all {Γ : Wd} {gv : Int → Int → V} {gd : Int → Int → Dt} (hd : ∀ ρ F i j, Den Γ ρ F (gd i j) (gv i j)) : OpS Γ (rI0 gv) (iOp gd fun _ _ => true) := by
  intro ρ F s H x y dx dy Q E g rx ry k
  cases dx with
  | int i =>
    cases dy with
    | int j =>
      simp only [Den] at rx ry
      exact ⟨i, j, rx, ry, k ρ F H _ LE.refl g (hd ρ F i j)⟩
    | _ => exact False.elim k
  | _ => exact False.elim k
abbrev dSub := iOp (fun i j => .int (i - j)) fun _ _ => true
abbrev dMul := iOp (fun i j => .int (i * j)) fun i j => decide ((-(2 ^ 64) < i ∧ i < 2 ^ 64) ∨ (-(2 ^ 64) < j ∧ j < 2 ^ 64))
abbrev dFdv := iOp (fun i j => .int (i / j)) fun _ j => decide (0 < j ∧ j < 1073741824)
abbrev dMod := iOp (fun i j => .int (i % j)) fun _ j => decide (0 < j)
abbrev dPow := iOp (fun i j => .int (i ^ j.toNat)) fun i j => decide (0 ≤ j ∧ j ≤ 1000000 ∧ i.natAbs < 2 ^ 64)
abbrev dLt := iOp (fun i j => .bl (decide (i < j))) fun _ _ => true
abbrev dLe := iOp (fun i j => .bl (decide (i ≤ j))) fun _ _ => true
abbrev dGt := iOp (fun i j => .bl (decide (j < i))) fun _ _ => true
abbrev dGe := iOp (fun i j => .bl (decide (j ≤ i))) fun _ _ => true
theorem es_sub (ha : ES J X W a fa) (hb : ES J X W b fb) : ES J X W (.BinOp a .Sub b pos) (eOp dSub fa fb) := es_op op_sub (iOp_all fun _ _ _ _ => by simp only [Den]) ha hb
theorem es_mul (ha : ES J X W a fa) (hb : ES J X W b fb) : ES J X W (.BinOp a .Mult b pos) (eOp dMul fa fb) := es_op op_mul (iOp_some (fun _ _ h => by simpa [CMul] using h) fun _ _ _ _ => by simp only [Den]) ha hb
theorem es_fdv (ha : ES J X W a fa) (hb : ES J X W b fb) : ES J X W (.BinOp a .FloorDiv b pos) (eOp dFdv fa fb) := es_op op_fdiv (iOp_some (fun _ _ h => by simpa [CDiv] using h) fun _ _ _ _ => by simp only [Den]) ha hb
theorem es_mod (ha : ES J X W a fa) (hb : ES J X W b fb) : ES J X W (.BinOp a .Mod b pos) (eOp dMod fa fb) := es_op op_mod (iOp_some (fun _ _ h => of_decide_eq_true h) fun _ _ _ _ => by simp only [Den]) ha hb
theorem es_pow (ha : ES J X W a fa) (hb : ES J X W b fb) : ES J X W (.BinOp a .Pow b pos) (eOp dPow fa fb) := es_op op_pow (iOp_some (fun _ _ h => by simpa [CPow] using h) fun _ _ _ _ => by simp only [Den]) ha hb
/-- a comparison that is known -/
def CmpOk (J : Cn) (X : Cx) (op : CmpOp) (f : Dt → Dt → Sto → Out Dt) : Prop := ∃ r, OpR X (compareOp op) r ∧ OpS (wd J X) r f
theorem c_lt : CmpOk J X .Lt dLt := ⟨_, op_lt, iOp_all fun _ _ _ _ => by simp only [Den]⟩
theorem c_le : CmpOk J X .LtE dLe := ⟨_, op_le, iOp_all fun _ _ _ _ => by simp only [Den]⟩
theorem c_gt : CmpOk J X .Gt dGt := ⟨_, op_gt, iOp_all fun _ _ _ _ => by simp only [Den]⟩
theorem c_ge : CmpOk J X .GtE dGe := ⟨_, op_ge, iOp_all fun _ _ _ _ => by simp only [Den]⟩
theorem es_cmp {op : CmpOp} {f : Dt → Dt → Sto → Out Dt} (h : CmpOk J X op f) (ha : ES J X W a fa) (hb : ES J X W b fb) (hm : behindInMarks op b = false := by rfl) : ES J X W (.Compare a [op] [b] pos) (eOp f fa fb) := by
  obtain ⟨r, hr, ho⟩ := h
  exact PE.imp (pe_cmpR hr ha hb hm) fun _ _ _ h => tE_op ho h
def dNeg : Dt → Sto → Out Dt
  | .int i, s => .ok (.int (-i)) s
  | _, _ => .bad
theorem es_neg (ha : ES J X W a fa) : ES J X W (.UnaryOp .USub a pos) (eUn dNeg fa) := es_un un_neg (fun ρ F s H x dx Q E g rx k => by
  unfold dNeg at k
  split at k
  · rename_i i
    simp only [Den] at rx
    exact ⟨i, rx, k ρ F H _ LE.refl g (by simp only [Den])⟩
  · exact k.elim) ha
/-! None -/
def isNon : Dt → Bool
  | .non => true
  | _ => false
theorem Den.isNon {Γ : Wd} {ρ : List Addr} {F : Hp} {d : Dt} {v : V} (r : Den Γ ρ F d v) : decide (v = .non) = Pd.isNon d := by
  cases d <;> simp only [Den] at r
  case tup => obtain ⟨_, a, xs, e, _⟩ := r; subst e; rfl
  case lst => obtain ⟨_, a, xs, e, _⟩ := r; subst e; rfl
  case lsk => obtain ⟨_, a, xs, e, _⟩ := r; subst e; rfl
  case obj => obtain ⟨a, e, _⟩ := r; subst e; rfl
  case exc => obtain ⟨a, xs, e, _⟩ := r; subst e; rfl
  case str => obtain ⟨e, _⟩ := r; subst e; rfl
  all_goals (subst r; rfl)
def dIsN (d : Dt) (s : Sto) : Out Dt := .ok (.bl (isNon d)) s
def dNotN (d : Dt) (s : Sto) : Out Dt := .ok (.bl (!isNon d)) s
theorem es_isN {j pos'} (ha : ES J X W a fa) : ES J X W (.Compare a [.Is] [.Constant .none j pos'] pos) (eUn dIsN fa) :=
  PE.imp (pe_cmp (pc_isN ha) (nobehind _ (by decide) (by decide))) fun σ H Q ⟨env, ρ, F, s, g, l, k⟩ => ⟨env, ρ, F, s, g, l, Po.bind k fun x s1 ρ1 F1 H1 v e1 l1 g1 r1 k1 => by
    rw [r1.isNon]
    exact k1 ρ1 F1 H1 _ LE.refl g1 (by simp only [Den])⟩
theorem es_notN {j pos'} (ha : ES J X W a fa) : ES J X W (.Compare a [.IsNot] [.Constant .none j pos'] pos) (eUn dNotN fa) :=
  PE.imp (pe_cmp (pc_notN ha) (nobehind _ (by decide) (by decide))) fun σ H Q ⟨env, ρ, F, s, g, l, k⟩ => ⟨env, ρ, F, s, g, l, Po.bind k fun x s1 ρ1 F1 H1 v e1 l1 g1 r1 k1 => by
    rw [r1.isNon]
    exact k1 ρ1 F1 H1 _ LE.refl g1 (by simp only [Den])⟩
end
end Pd
namespace Pd
open PySem L2
/-! ### data as the model compares it -/
mutual
def toPy : Dt → Option PyData
  | .non => some .none
  | .bl b => some (.bool b)
  | .int i => some (.int i)
  | .str x => some (.str x)
  | .tup l => (toPys l).map .tuple
  | .lst l => (toPys l).map .list
  | .lsk l => (toPys l).map .list
  | .obj _ => none
  | .exc _ => none
def toPys : List Dt → Option (List PyData)
  | [] => some []
  | d :: ds => match toPy d, toPys ds with
    | some a, some b => some (a :: b)
    | _, _ => none
end
def toPyS (s : Sto) (d : Dt) : Option PyData := match d with
  | .obj i => match s[i]? with
    | some (.lst l) => (toPys l).map .list
    | _ => none
  | d => toPy d
section
variable {Γ : Wd} {ρ : List Addr} {F H : Hp} {s : Sto}
mutual
theorem Den.dp (g : ∀ a o, F a = some o → H a = some o) : ∀ (d : Dt) (v : V) (p : PyData), Den Γ ρ F d v → toPy d = some p → Dp Γ.K H v p ∧ p.canLay0 = true
  | .non, v, p, h, e => by simp only [Den] at h; simp only [toPy, Option.some.injEq] at e; subst h; subst e; exact ⟨.non, rfl⟩
  | .bl b, v, p, h, e => by simp only [Den] at h; simp only [toPy, Option.some.injEq] at e; subst h; subst e; exact ⟨.bl b, rfl⟩
  | .int i, v, p, h, e => by simp only [Den] at h; simp only [toPy, Option.some.injEq] at e; subst h; subst e; exact ⟨.int i, rfl⟩
  | .str x, v, p, h, e => by
    simp only [Den] at h; simp only [toPy, Option.some.injEq] at e
    obtain ⟨h, k⟩ := h
    subst h; subst e
    unfold sok at k
    simp only [Bool.and_eq_true] at k
    exact ⟨.str x, k.1⟩
  | .tup l, v, p, h, e => by
    simp only [Den] at h; simp only [toPy, Option.map_eq_some_iff] at e
    obtain ⟨z, a, xs, e1, q, t⟩ := h
    obtain ⟨ps, e2, e3⟩ := e
    subst e1; subst e3
    obtain ⟨r1, r2⟩ := Dens.dp g l xs ps t e2
    exact ⟨.tup (SqT.of (g _ _ q)) r1, r2⟩
  | .lst l, v, p, h, e => by
    simp only [Den] at h; simp only [toPy, Option.map_eq_some_iff] at e
    obtain ⟨z, a, xs, e1, q, t⟩ := h
    obtain ⟨ps, e2, e3⟩ := e
    subst e1; subst e3
    obtain ⟨r1, r2⟩ := Dens.dp g l xs ps t e2
    exact ⟨.lst (SqL.of (g _ _ q)) r1, r2⟩
  | .lsk l, v, p, h, e => by
    simp only [Den] at h; simp only [toPy, Option.map_eq_some_iff] at e
    obtain ⟨z, a, xs, e1, q, t⟩ := h
    obtain ⟨ps, e2, e3⟩ := e
    subst e1; subst e3
    obtain ⟨r1, r2⟩ := Dens.dp g l xs ps t e2
    exact ⟨.lst (sqL_sub g q) r1, r2⟩
  | .obj _, v, p, h, e => by simp [toPy] at e
  | .exc _, v, p, h, e => by simp [toPy] at e
theorem Dens.dp (g : ∀ a o, F a = some o → H a = some o) : ∀ (d : List Dt) (v : List V) (p : List PyData), Dens Γ ρ F d v → toPys d = some p → DpAll Γ.K H v p ∧ PyData.canLayAll0 p = true
  | [], v, p, h, e => by
    simp only [Dens] at h; simp only [toPys, Option.some.injEq] at e
    subst h; subst e
    exact ⟨.nil, rfl⟩
  | d :: ds, v, p, h, e => by
    simp only [Dens] at h; simp only [toPys] at e
    obtain ⟨w, r, e1, q, t⟩ := h
    subst e1
    split at e
    · rename_i a b ha hb
      cases e
      obtain ⟨r1, r2⟩ := Den.dp g d w a q ha
      obtain ⟨r3, r4⟩ := Dens.dp g ds r b t hb
      exact ⟨.cons r1 r3, by simp only [PyData.canLayAll0, r2, r4, Bool.and_self]⟩
    · cases e
end
theorem G.dp (g : G Γ ρ F s H) {d : Dt} {v : V} {p : PyData} (h : Den Γ ρ F d v) (e : toPyS s d = some p) : Dp Γ.K H v p ∧ p.canLay0 = true := by
  cases d with
  | obj i =>
    simp only [Den] at h
    obtain ⟨a, e1, q⟩ := h
    simp only [toPyS] at e
    split at e
    · rename_i l hs
      simp only [Option.map_eq_some_iff] at e
      obtain ⟨ps, e2, e3⟩ := e
      subst e3; subst e1
      obtain ⟨z, xs, hx, t⟩ := g.at_ i a _ q hs
      obtain ⟨r1, r2⟩ := Dens.dp g.sub l xs ps t e2
      exact ⟨.lst (SqL.of hx) r1, r2⟩
    · cases e
  | _ => exact Den.dp g.sub _ v p h e
end
theorem shaped_of {p : PyData} (h1 : p.canLay0 = true) (h2 : p.depth ≤ 64) : SeqAt.shaped p = true := by
  unfold SeqAt.shaped
  rw [h1, Bool.true_and]
  exact decide_eq_true h2
def dEqB (s : Sto) (x y : Dt) : Option Bool := match toPyS s x, toPyS s y with
  | some a, some b => if a.depth ≤ 64 ∧ b.depth ≤ 64 then some (PyData.eqv a b) else none
  | _, _ => none
def ofO (s : Sto) : Option Dt → Out Dt
  | some d => .ok d s
  | none => .bad
def dEq (x y : Dt) (s : Sto) : Out Dt := ofO s ((dEqB s x y).map .bl)
def dNe (x y : Dt) (s : Sto) : Out Dt := ofO s ((dEqB s x y).map fun b => .bl (!b))
theorem dEqB_of {Γ : Wd} {ρ : List Addr} {F H : Hp} {s : Sto} (g : G Γ ρ F s H) {x y : Dt} {u v : V} {c : Bool} (hx : Den Γ ρ F x u) (hy : Den Γ ρ F y v) (e : dEqB s x y = some c) :
    ∃ a b, Dp Γ.K H u a ∧ Dp Γ.K H v b ∧ SeqAt.shaped a = true ∧ SeqAt.shaped b = true ∧ c = PyData.eqv a b := by
  unfold dEqB at e
  split at e
  · rename_i a b ha hb
    split at e
    · rename_i hd
      cases e
      obtain ⟨r1, r2⟩ := g.dp hx ha
      obtain ⟨r3, r4⟩ := g.dp hy hb
      exact ⟨a, b, r1, r3, shaped_of r2 hd.1, shaped_of r4 hd.2, rfl⟩
    · cases e
  · cases e
section
variable {J : Cn} {X : Cx} {W : WX} {a b c e : Expr} {es : List Expr} {fa fb fc : Ex} {fs : List Ex} {ft fu : Tx} {pos : Pos}
theorem Po.ofO {Γ : Wd} {ρ : List Addr} {F H : Hp} {Q : VK} {E : Value → Hp → Prop} {s : Sto} {o : Option Dt} (h : EPo Γ ρ F H Q E (ofO s o)) : ∃ d, o = some d ∧ EPo Γ ρ F H Q E (.ok d s) := by
  cases o with
  | none => exact False.elim h
  | some d => exact ⟨d, rfl, h⟩
theorem c_eq (hu : X.A.units + 64 < cLine) : CmpOk J X .Eq dEq := ⟨_, op_eqD hu, fun ρ F s H x y dx dy Q E g rx ry k => by
  obtain ⟨d, e, k⟩ := k.ofO
  obtain ⟨c, e1, e2⟩ := Option.map_eq_some_iff.mp e
  subst e2
  obtain ⟨p, q, r1, r2, s1, s2, e3⟩ := dEqB_of g rx ry e1
  refine ⟨p, q, r1, r2, s1, s2, ?_⟩
  rw [← e3]
  exact k ρ F H _ LE.refl g (by simp only [Den])⟩
theorem c_ne (hu : X.A.units + 64 < cLine) : CmpOk J X .NotEq dNe := ⟨_, op_neD hu, fun ρ F s H x y dx dy Q E g rx ry k => by
  obtain ⟨d, e, k⟩ := k.ofO
  obtain ⟨c, e1, e2⟩ := Option.map_eq_some_iff.mp e
  subst e2
  obtain ⟨p, q, r1, r2, s1, s2, e3⟩ := dEqB_of g rx ry e1
  refine ⟨p, q, r1, r2, s1, s2, ?_⟩
  rw [← e3]
  exact k ρ F H _ LE.refl g (by simp only [Den])⟩
/-! truth -/
def truD (s : Sto) : Dt → Option Bool
  | .non => some false
  | .bl b => some b
  | .int i => some (i != 0)
  | .str x => some ((x.length : Int) != 0)
  | .tup l => some (!l.isEmpty)
  | .lst l => some (!l.isEmpty)
  | .lsk l => some (!l.isEmpty)
  | .obj i => match s[i]? with
    | some (.lst l) => some (!l.isEmpty)
    | some (.dic kvs) => some (!kvs.isEmpty)
    | _ => none
  | .exc _ => none
theorem Dens.isEmpty {Γ : Wd} {ρ : List Addr} {F : Hp} {l : List Dt} {xs : List V} (h : Dens Γ ρ F l xs) : xs.isEmpty = l.isEmpty := by
  have e := h.length
  cases l <;> cases xs <;> simp_all
theorem DenK.length {κ : Type} {Γ : Wd} {ρ : List Addr} {F : Hp} : ∀ {l : List (κ × Dt)} {xs : List (κ × V)}, DenK Γ ρ F l xs → l.length = xs.length
  | [], xs, h => by rw [show xs = [] from h]; rfl
  | (k, d) :: l, xs, h => by
    obtain ⟨v, r, e, q, t⟩ := h
    rw [e, List.length_cons, List.length_cons, DenK.length t]
theorem DenK.isEmpty {κ : Type} {Γ : Wd} {ρ : List Addr} {F : Hp} {l : List (κ × Dt)} {xs : List (κ × V)} (h : DenK Γ ρ F l xs) : xs.isEmpty = l.isEmpty := by
  have e := h.length
  cases l <;> cases xs <;> simp_all
theorem sok_len {x : Str} (h : sok x = true) : x.length ≤ sizeLine := by
  unfold sok at h
  simp only [Bool.and_eq_true, decide_eq_true_eq] at h
  rw [sizeLine_eq]
  omega
theorem G.tru {Γ : Wd} {ρ : List Addr} {F H : Hp} {s : Sto} (g : G Γ ρ F s H) {d : Dt} {v : V} {k : Bool} (h : Den Γ ρ F d v) (e : truD s d = some k) : TruV Γ.K v H k := by
  cases d with
  | non => simp only [Den] at h; simp only [truD, Option.some.injEq] at e; subst h; subst e; exact rfl
  | bl b => simp only [Den] at h; simp only [truD, Option.some.injEq] at e; subst h; subst e; exact rfl
  | int i => simp only [Den] at h; simp only [truD, Option.some.injEq] at e; subst h; subst e; exact rfl
  | str x =>
    simp only [Den] at h; simp only [truD, Option.some.injEq] at e
    obtain ⟨h, hk⟩ := h
    subst h; subst e
    exact ⟨sok_len hk, rfl⟩
  | tup l =>
    simp only [truD, Option.some.injEq] at e; subst e
    obtain ⟨a, xs, e1, q, t, _⟩ := g.sqT h (l := l) rfl
    subst e1
    exact .inr (.inl ⟨xs, q, by rw [t.isEmpty]⟩)
  | lst l =>
    simp only [truD, Option.some.injEq] at e; subst e
    obtain ⟨a, xs, e1, q, t, _⟩ := g.sqL h (l := l) rfl
    subst e1
    exact .inl ⟨xs, q, by rw [t.isEmpty]⟩
  | lsk l =>
    simp only [truD, Option.some.injEq] at e; subst e
    obtain ⟨a, xs, e1, q, t, _⟩ := g.sqL h (l := l) rfl
    subst e1
    exact .inl ⟨xs, q, by rw [t.isEmpty]⟩
  | obj i =>
    simp only [Den] at h
    obtain ⟨a, e1, q⟩ := h
    subst e1
    simp only [truD] at e
    split at e
    · rename_i l hs
      cases e
      obtain ⟨z, xs, hx, t⟩ := g.at_ i a _ q hs
      exact .inl ⟨xs, SqL.of hx, by rw [t.isEmpty]⟩
    · rename_i l hs
      cases e
      obtain ⟨z, xs, hx, t⟩ := g.at_ i a _ q hs
      exact .inr (.inr ⟨xs, hx, by rw [t.isEmpty]⟩)
    · cases e
  | exc c => simp [truD] at e
def ofB (s : Sto) : Option Bool → Out Bool
  | some d => .ok d s
  | none => .bad
def tTru (f : Ex) : Tx := fun env => bnd (f env) fun d s => ofB s (truD s d)
theorem ts_tru (ha : ES J X W a fa) (he : ∀ whole, isTrue a X.env whole = (do let v ← whole; standAt a.pos; holding [v] (truthy v)) := by intro _; rfl) : TSo J X W a (tTru fa) :=
  PT.imp (pt_truth ha he) fun σ H Q ⟨env, ρ, F, s, g, l, k⟩ => ⟨env, ρ, F, s, g, l, Po.bind k fun x s1 ρ1 F1 H1 v e1 l1 g1 r1 k1 => by
    cases e : truD s1 x with
    | none => rw [e] at k1; exact False.elim k1
    | some b => rw [e] at k1; exact ⟨b, g1.tru r1 e, k1 ρ1 F1 H1 b LE.refl g1 rfl⟩⟩
def tBl (f : Ex) : Tx := fun env => bnd (f env) fun d s => match d with
  | .bl b => .ok b s
  | _ => .bad
/-- a value that is a truth, as a test, by a rule of its own -/
theorem tT_bl {Γ : Wd} {σ : St} {H : Hp} {Q : Bool → Hp → Prop} (h : tT Γ W (tBl fa) σ H Q) : tE Γ W fa σ H fun x H' => ∃ k, x = .bl k ∧ Q k H' := by
  obtain ⟨env, ρ, F, s, g, l, k⟩ := h
  refine ⟨env, ρ, F, s, g, l, Po.bind k fun x s1 ρ1 F1 H1 v e1 l1 g1 r1 k1 => ?_⟩
  cases x with
  | bl b => simp only [Den] at r1; exact ⟨b, r1, k1 ρ1 F1 H1 b LE.refl g1 rfl⟩
  | _ => exact False.elim k1
theorem ts_cmp {op : CmpOp} {f : Dt → Dt → Sto → Out Dt} (h : CmpOk J X op f) (ha : ES J X W a fa) (hb : ES J X W b fb) (hm : behindInMarks op b = false := by rfl) : TSo J X W (.Compare a [op] [b] pos) (tBl (eOp f fa fb)) := by
  obtain ⟨r, hr, ho⟩ := h
  exact PT.imp (pt_cmpR hr ha hb hm) fun σ H Q h => tE_op (Q := fun x H' => ∃ k, x = .bl k ∧ Q k H') ho (tT_bl h)
theorem ts_isN {j pos'} (ha : ES J X W a fa) : TSo J X W (.Compare a [.Is] [.Constant .none j pos'] pos) (tBl (eUn dIsN fa)) :=
  PT.imp (pt_cmp (pc_isN ha) (nobehind _ (by decide) (by decide))) fun σ H Q h => by
    obtain ⟨env, ρ, F, s, g, l, k⟩ := tT_bl h
    exact ⟨env, ρ, F, s, g, l, Po.bind k fun x s1 ρ1 F1 H1 v e1 l1 g1 r1 k1 => by
      rw [r1.isNon]
      exact k1 ρ1 F1 H1 _ LE.refl g1 (by simp only [Den])⟩
theorem ts_notN {j pos'} (ha : ES J X W a fa) : TSo J X W (.Compare a [.IsNot] [.Constant .none j pos'] pos) (tBl (eUn dNotN fa)) :=
  PT.imp (pt_cmp (pc_notN ha) (nobehind _ (by decide) (by decide))) fun σ H Q h => by
    obtain ⟨env, ρ, F, s, g, l, k⟩ := tT_bl h
    exact ⟨env, ρ, F, s, g, l, Po.bind k fun x s1 ρ1 F1 H1 v e1 l1 g1 r1 k1 => by
      rw [r1.isNon]
      exact k1 ρ1 F1 H1 _ LE.refl g1 (by simp only [Den])⟩
def tAnd (ft fu : Tx) : Tx := fun env => bnd (ft env) fun c s => if c = true then fu env s else .ok false s
def tOr (ft fu : Tx) : Tx := fun env => bnd (ft env) fun c s => if c = true then .ok true s else fu env s
def tNot (ft : Tx) : Tx := fun env => bnd (ft env) fun c s => .ok (!c) s
theorem ws_and1 (ha : TSo J X W a ft) : WSo J X W (.BoolOp .And [a] pos) ft := pw_and1 ha
theorem ws_or1 (ha : TSo J X W a ft) : WSo J X W (.BoolOp .Or [a] pos) ft := pw_or1 ha
theorem ws_and {rest : List Expr} (ha : TSo J X W a ft) (hb : WSo J X W (.BoolOp .And (b :: rest) pos) fu) : WSo J X W (.BoolOp .And (a :: b :: rest) pos) (tAnd ft fu) :=
  PW.imp (pw_and ha hb) fun σ H Q ⟨env, ρ, F, s, g, l, k⟩ => ⟨env, ρ, F, s, g, l, Po.bind k fun x s1 ρ1 F1 H1 v e1 l1 g1 r1 k1 => by
    subst r1
    cases x with
    | true => exact ⟨env, ρ1, F1, s1, g1, l.mono l1, k1⟩
    | false => exact k1 ρ1 F1 H1 false LE.refl g1 rfl⟩
theorem ws_or {rest : List Expr} (ha : TSo J X W a ft) (hb : WSo J X W (.BoolOp .Or (b :: rest) pos) fu) : WSo J X W (.BoolOp .Or (a :: b :: rest) pos) (tOr ft fu) :=
  PW.imp (pw_or ha hb) fun σ H Q ⟨env, ρ, F, s, g, l, k⟩ => ⟨env, ρ, F, s, g, l, Po.bind k fun x s1 ρ1 F1 H1 v e1 l1 g1 r1 k1 => by
    subst r1
    cases x with
    | true => exact k1 ρ1 F1 H1 true LE.refl g1 rfl
    | false => exact ⟨env, ρ1, F1, s1, g1, l.mono l1, k1⟩⟩
theorem ts_w (h : WSo J X W e ft) : TSo J X W e ft := h.pt
theorem ts_not (ha : TSo J X W a ft) : TSo J X W (.UnaryOp .Not a pos) (tNot ft) :=
  PT.imp (pt_not ha) fun σ H Q ⟨env, ρ, F, s, g, l, k⟩ => ⟨env, ρ, F, s, g, l, Po.bind k fun x s1 ρ1 F1 H1 v e1 l1 g1 r1 k1 => by
    subst r1
    exact k1 ρ1 F1 H1 _ LE.refl g1 rfl⟩
/-! and, or, not as values -/
def eAnd (fa fb : Ex) : Ex := fun env => bnd (fa env) fun d s => match truD s d with
  | some true => fb env s
  | some false => .ok d s
  | none => .bad
def eOr (fa fb : Ex) : Ex := fun env => bnd (fa env) fun d s => match truD s d with
  | some true => .ok d s
  | some false => fb env s
  | none => .bad
def eNot (fa : Ex) : Ex := fun env => bnd (fa env) fun d s => ofO s ((truD s d).map fun b => .bl (!b))
theorem es_one {op} (h : ES J X W a fa) : ES J X W (.BoolOp op [a] pos) fa := pe_one h
theorem es_and {rest : List Expr} (ha : ES J X W a fa) (hb : ES J X W (.BoolOp .And (b :: rest) pos) fb) : ES J X W (.BoolOp .And (a :: b :: rest) pos) (eAnd fa fb) :=
  PE.imp (pe_andT ha hb) fun σ H Q ⟨env, ρ, F, s, g, l, k⟩ => ⟨env, ρ, F, s, g, l, Po.bind k fun x s1 ρ1 F1 H1 v e1 l1 g1 r1 k1 => by
    cases e : truD s1 x with
    | none => rw [e] at k1; exact False.elim k1
    | some b =>
      rw [e] at k1
      refine ⟨b, g1.tru r1 e, ?_⟩
      cases b with
      | true => exact ⟨env, ρ1, F1, s1, g1, l.mono l1, k1⟩
      | false => exact k1 ρ1 F1 H1 v LE.refl g1 r1⟩
theorem es_or {rest : List Expr} (ha : ES J X W a fa) (hb : ES J X W (.BoolOp .Or (b :: rest) pos) fb) : ES J X W (.BoolOp .Or (a :: b :: rest) pos) (eOr fa fb) :=
  PE.imp (pe_orT ha hb) fun σ H Q ⟨env, ρ, F, s, g, l, k⟩ => ⟨env, ρ, F, s, g, l, Po.bind k fun x s1 ρ1 F1 H1 v e1 l1 g1 r1 k1 => by
    cases e : truD s1 x with
    | none => rw [e] at k1; exact False.elim k1
    | some b =>
      rw [e] at k1
      refine ⟨b, g1.tru r1 e, ?_⟩
      cases b with
      | true => exact k1 ρ1 F1 H1 v LE.refl g1 r1
      | false => exact ⟨env, ρ1, F1, s1, g1, l.mono l1, k1⟩⟩
theorem es_not (ha : ES J X W a fa) : ES J X W (.UnaryOp .Not a pos) (eNot fa) :=
  PE.imp (pe_notT ha) fun σ H Q ⟨env, ρ, F, s, g, l, k⟩ => ⟨env, ρ, F, s, g, l, Po.bind k fun x s1 ρ1 F1 H1 v e1 l1 g1 r1 k1 => by
    obtain ⟨d, e, k1⟩ := Po.ofO k1
    obtain ⟨b, e2, e3⟩ := Option.map_eq_some_iff.mp e
    subst e3
    exact ⟨b, g1.tru r1 e2, k1 ρ1 F1 H1 _ LE.refl g1 (by simp only [Den])⟩⟩
def eIf (ft : Tx) (fa fb : Ex) : Ex := fun env => bnd (ft env) fun c s => if c = true then fa env s else fb env s
theorem es_if (hc : TSo J X W c ft) (ha : ES J X W a fa) (hb : ES J X W b fb) : ES J X W (.IfExp c a b pos) (eIf ft fa fb) :=
  PE.imp (pe_ifExp hc ha hb) fun σ H Q ⟨env, ρ, F, s, g, l, k⟩ => ⟨env, ρ, F, s, g, l, Po.bind k fun x s1 ρ1 F1 H1 v e1 l1 g1 r1 k1 => by
    subst r1
    cases x with
    | true => exact ⟨env, ρ1, F1, s1, g1, l.mono l1, k1⟩
    | false => exact ⟨env, ρ1, F1, s1, g1, l.mono l1, k1⟩⟩
/-- a op b op' c -/
def eChain (op op' : Dt → Dt → Sto → Out Dt) (fa fb fc : Ex) : Ex := fun env => bnd (fa env) fun x => bnd (fb env) fun y => bnd (op x y) fun z s => match z with
  | .bl true => bnd (fc env) (fun w => op' y w) s
  | .bl false => .ok (.bl false) s
  | _ => .bad
theorem tE_chain {Γ : Wd} {r r' : R2} {op op' : Dt → Dt → Sto → Out Dt} (ho : OpS Γ r op) (ho' : OpS Γ r' op') {σ : St} {H : Hp} {Q : VK} (h : tE Γ W (eChain op op' fa fb fc) σ H Q) : tChain r r' (tE Γ W fa) (tE Γ W fb) (tE Γ W fc) σ H Q := by
  obtain ⟨env, ρ, F, s, g, l, k⟩ := h
  refine ⟨env, ρ, F, s, g, l, Po.bind k fun x s1 ρ1 F1 H1 v e1 l1 g1 r1 k1 => ?_⟩
  refine ⟨env, ρ1, F1, s1, g1, l.mono l1, Po.bind k1 fun y s2 ρ2 F2 H2 u e2 l2 g2 r2 k2 => ?_⟩
  refine ho ρ2 F2 s2 H2 v u x y _ _ g2 (Den.mono l2 _ _ r1) r2 (Po.bind k2 fun z s3 ρ3 F3 H3 t e3 l3 g3 r3 k3 => ?_)
  cases z with
  | bl b =>
    simp only [Den] at r3
    refine ⟨b, r3, ?_⟩
    cases b with
    | true =>
      refine ⟨env, ρ3, F3, s3, g3, (l.mono l1).mono (l2.trans l3), Po.bind k3 fun w s4 ρ4 F4 H4 q e4 l4 g4 r4 k4 => ?_⟩
      exact ho' ρ4 F4 s4 H4 u q y w Q _ g4 (Den.mono (l3.trans l4) _ _ r2) r4 k4
    | false => exact k3 ρ3 F3 H3 _ LE.refl g3 (by simp only [Den])
  | _ => exact False.elim k3
theorem last_no {op op' : CmpOp} {b c : Expr} (h : op' ≠ .In) (h2 : op' ≠ .NotIn) : lastMarks [op, op'] [b, c] = false := nobehind c h h2
theorem es_leLt (ha : ES J X W a fa) (hb : ES J X W b fb) (hc : ES J X W c fc) : ES J X W (.Compare a [.LtE, .Lt] [b, c] pos) (eChain dLe dLt fa fb fc) := PE.imp (pe_chain op_le op_lt ha hb hc (last_no (by decide) (by decide))) fun _ _ _ h => tE_chain (iOp_all fun _ _ _ _ => by simp only [Den]) (iOp_all fun _ _ _ _ => by simp only [Den]) h
theorem es_leLe (ha : ES J X W a fa) (hb : ES J X W b fb) (hc : ES J X W c fc) : ES J X W (.Compare a [.LtE, .LtE] [b, c] pos) (eChain dLe dLe fa fb fc) := PE.imp (pe_chain op_le op_le ha hb hc (last_no (by decide) (by decide))) fun _ _ _ h => tE_chain (iOp_all fun _ _ _ _ => by simp only [Den]) (iOp_all fun _ _ _ _ => by simp only [Den]) h
theorem es_ltLt (ha : ES J X W a fa) (hb : ES J X W b fb) (hc : ES J X W c fc) : ES J X W (.Compare a [.Lt, .Lt] [b, c] pos) (eChain dLt dLt fa fb fc) := PE.imp (pe_chain op_lt op_lt ha hb hc (last_no (by decide) (by decide))) fun _ _ _ h => tE_chain (iOp_all fun _ _ _ _ => by simp only [Den]) (iOp_all fun _ _ _ _ => by simp only [Den]) h
theorem es_ltLe (ha : ES J X W a fa) (hb : ES J X W b fb) (hc : ES J X W c fc) : ES J X W (.Compare a [.Lt, .LtE] [b, c] pos) (eChain dLt dLe fa fb fc) := PE.imp (pe_chain op_lt op_le ha hb hc (last_no (by decide) (by decide))) fun _ _ _ h => tE_chain (iOp_all fun _ _ _ _ => by simp only [Den]) (iOp_all fun _ _ _ _ => by simp only [Den]) h
theorem ts_leLt (ha : ES J X W a fa) (hb : ES J X W b fb) (hc : ES J X W c fc) : TSo J X W (.Compare a [.LtE, .Lt] [b, c] pos) (tBl (eChain dLe dLt fa fb fc)) := PT.imp (pt_chain op_le op_lt ha hb hc (last_no (by decide) (by decide))) fun _ _ _ h => tE_chain (iOp_all fun _ _ _ _ => by simp only [Den]) (iOp_all fun _ _ _ _ => by simp only [Den]) (tT_bl h)
theorem ts_leLe (ha : ES J X W a fa) (hb : ES J X W b fb) (hc : ES J X W c fc) : TSo J X W (.Compare a [.LtE, .LtE] [b, c] pos) (tBl (eChain dLe dLe fa fb fc)) := PT.imp (pt_chain op_le op_le ha hb hc (last_no (by decide) (by decide))) fun _ _ _ h => tE_chain (iOp_all fun _ _ _ _ => by simp only [Den]) (iOp_all fun _ _ _ _ => by simp only [Den]) (tT_bl h)
theorem ts_ltLt (ha : ES J X W a fa) (hb : ES J X W b fb) (hc : ES J X W c fc) : TSo J X W (.Compare a [.Lt, .Lt] [b, c] pos) (tBl (eChain dLt dLt fa fb fc)) := PT.imp (pt_chain op_lt op_lt ha hb hc (last_no (by decide) (by decide))) fun _ _ _ h => tE_chain (iOp_all fun _ _ _ _ => by simp only [Den]) (iOp_all fun _ _ _ _ => by simp only [Den]) (tT_bl h)
theorem ts_ltLe (ha : ES J X W a fa) (hb : ES J X W b fb) (hc : ES J X W c fc) : TSo J X W (.Compare a [.Lt, .LtE] [b, c] pos) (tBl (eChain dLt dLe fa fb fc)) := PT.imp (pt_chain op_lt op_le ha hb hc (last_no (by decide) (by decide))) fun _ _ _ h => tE_chain (iOp_all fun _ _ _ _ => by simp only [Den]) (iOp_all fun _ _ _ _ => by simp only [Den]) (tT_bl h)
end
end Pd
namespace Pd
open PySem L2
/-! ### flat things -/
def flatD : Dt → Bool
  | .non => true
  | .bl _ => true
  | .int _ => true
  | .str _ => true
  | _ => false
def feq : Dt → Dt → Bool
  | .non, .non => true
  | .bl a, .bl b => a == b
  | .bl a, .int b => (if a then 1 else 0) == b
  | .int a, .bl b => a == (if b then 1 else 0)
  | .int a, .int b => a == b
  | .str a, .str b => a == b
  | _, _ => false
def toVd : Dt → V
  | .bl b => .bl b
  | .int i => .int i
  | .str x => .str x
  | _ => .non
theorem eqV_toVd {d e : Dt} (h : flatD d = true) (k : flatD e = true) : eqV (toVd d) (toVd e) = feq d e := by
  cases d <;> cases e <;> first | rfl | exact Bool.noConfusion h | exact Bool.noConfusion k
theorem flatV_toVd (d : Dt) : flatV (toVd d) = true := by cases d <;> rfl
section
variable {Γ : Wd} {ρ : List Addr} {F H : Hp} {s : Sto}
theorem Den.flat {d : Dt} {v : V} (h : Den Γ ρ F d v) (k : flatD d = true) : v = toVd d := by
  cases d with
  | non => simp only [Den] at h; exact h
  | bl b => simp only [Den] at h; exact h
  | int i => simp only [Den] at h; exact h
  | str x => simp only [Den] at h; exact h.1
  | _ => simp [flatD] at k
theorem Dens.flat : ∀ {ds : List Dt} {vs : List V}, Dens Γ ρ F ds vs → ds.all flatD = true → vs = ds.map toVd
  | [], vs, h, k => by simp only [Dens] at h; exact h
  | d :: ds, vs, h, k => by
    simp only [Dens] at h
    obtain ⟨v, r, e, q, t⟩ := h
    simp only [List.all_cons, Bool.and_eq_true] at k
    rw [e, List.map_cons, q.flat k.1, Dens.flat t k.2]
end
theorem any_toVd {x : Dt} (hx : flatD x = true) : ∀ {ds : List Dt}, ds.all flatD = true → inV (toVd x) (ds.map toVd) = ds.any fun e => feq e x
  | [], _ => rfl
  | d :: ds, k => by
    simp only [List.all_cons, Bool.and_eq_true] at k
    have ih := any_toVd hx k.2
    unfold inV at ih ⊢
    rw [List.map_cons, List.any_cons, List.any_cons, ih, eqV_toVd k.1 hx]
theorem all_flat_map : ∀ ds : List Dt, (ds.map toVd).all flatV = true
  | [] => rfl
  | d :: ds => by rw [List.map_cons, List.all_cons, flatV_toVd, all_flat_map ds]; rfl
/-- x in y -/
def inB (s : Sto) (x y : Dt) : Option Bool := match y with
  | .str z => match x with
    | .str w => match w.cps.toList with
      | [c] => some (decide (c ∈ z.cps.toList))
      | _ => none
    | _ => none
  | _ => match asQ s y with
    | some l => if flatD x && l.all flatD then some (l.any fun e => feq e x) else match toPyS s x, toPyS s y with
      | some d, some (.list ds) => if d.depth ≤ 64 ∧ (PyData.list ds).depth ≤ 64 then some (ds.any fun z => PyData.eqv z d) else none
      | some d, some (.tuple ds) => if d.depth ≤ 64 ∧ (PyData.tuple ds).depth ≤ 64 then some (ds.any fun z => PyData.eqv z d) else none
      | _, _ => none
    | none => none
theorem str_one {w : Str} {c : Nat} (h : w.cps.toList = [c]) : w = ⟨#[c]⟩ := by
  cases w with
  | mk a =>
    have e : a = #[c] := by apply Array.toList_inj.mp; simpa using h
    rw [e]
def rInAll (K : PySem.W.Frag) (f : Bool → Bool) : R2 := fun x y H Q =>
  (∃ (c : Nat) (z : Str), x = .str ⟨#[c]⟩ ∧ y = .str z ∧ Q (.bl (f (decide (c ∈ z.cps.toList)))) H) ∨
  ((∃ p xs, y = .ref p ∧ (SqL K H p xs ∨ SqT K H p xs) ∧ flatV x = true ∧ xs.all flatV = true ∧ Q (.bl (f (inV x xs))) H) ∨
  ((∃ d ds, Dp K H x d ∧ Dp K H y (.list ds) ∧ SeqAt.shaped d = true ∧ SeqAt.shaped (.list ds) = true ∧ Q (.bl (f (ds.any fun z => PyData.eqv z d))) H) ∨
  ∃ d ds, Dp K H x d ∧ Dp K H y (.tuple ds) ∧ SeqAt.shaped d = true ∧ SeqAt.shaped (.tuple ds) = true ∧ Q (.bl (f (ds.any fun z => PyData.eqv z d))) H))
def rInT (K : PySem.W.Frag) (f : Bool → Bool) : R2 := fun x y H Q => ∃ d ds, Dp K H x d ∧ Dp K H y (.tuple ds) ∧ SeqAt.shaped d = true ∧ SeqAt.shaped (.tuple ds) = true ∧ Q (.bl (f (ds.any fun z => PyData.eqv z d))) H
theorem op_inT {X : Cx} (hu : X.A.units + 65 < cLine) : OpR X (compareOp .In) (rInT X.K fun b => b) := by
  intro pins s σ H x y v u Q I rx ry h
  obtain ⟨d, ds, hd, he, sd, se, q⟩ := h
  obtain ⟨as, r1⟩ := Dp.reads I d x v hd rx
  obtain ⟨bs, r2⟩ := Dp.reads I (.tuple ds) y u he ry
  exact SeqAt.in_tuple_reads r2 r1 (SeqAt.canLay_of_shaped se) (SeqAt.canLay_of_shaped sd) (PyProof.Rows.room_in_shaped sd hu) ⟨.bl _, H, I, rfl, q⟩
theorem op_notInT {X : Cx} (hu : X.A.units + 65 < cLine) : OpR X (compareOp .NotIn) (rInT X.K fun b => !b) := by
  intro pins s σ H x y v u Q I rx ry h
  obtain ⟨d, ds, hd, he, sd, se, q⟩ := h
  obtain ⟨as, r1⟩ := Dp.reads I d x v hd rx
  obtain ⟨bs, r2⟩ := Dp.reads I (.tuple ds) y u he ry
  exact SeqAt.notIn_tuple_reads r2 r1 (SeqAt.canLay_of_shaped se) (SeqAt.canLay_of_shaped sd) (PyProof.Rows.room_in_shaped sd hu) ⟨.bl _, H, I, rfl, q⟩
theorem inB_of {Γ : Wd} {f : Bool → Bool} : OpS Γ (rInAll Γ.K f) (fun x y s => ofO s ((inB s x y).map fun b => .bl (f b))) := by
  intro ρ F s H x y dx dy Q E g rx ry k
  obtain ⟨d, e, k⟩ := Po.ofO k
  obtain ⟨b, e1, e2⟩ := Option.map_eq_some_iff.mp e
  subst e2
  have fin : Q (.bl (f b)) H := k ρ F H _ LE.refl g (by simp only [Den])
  clear k e
  unfold inB at e1
  split at e1
  · rename_i z
    split at e1
    · rename_i w
      split at e1
      · rename_i c hc
        cases e1
        simp only [Den] at rx ry
        exact .inl ⟨c, z, by rw [rx.1, str_one hc], ry.1, fin⟩
      · cases e1
    · cases e1
  · split at e1
    · rename_i l hl
      split at e1
      · rename_i hf
        cases e1
        simp only [Bool.and_eq_true] at hf
        obtain ⟨a, xs, e3, q, t, _⟩ := g.sqQ ry hl
        have e4 := t.flat hf.2
        subst e4
        rw [← any_toVd hf.1 hf.2, ← rx.flat hf.1] at fin
        exact .inr (.inl ⟨a, _, e3, q, by rw [rx.flat hf.1]; exact flatV_toVd _, all_flat_map _, fin⟩)
      · split at e1
        · rename_i d' ds hd hds
          split at e1
          · rename_i hz
            cases e1
            obtain ⟨r1, r2⟩ := g.dp rx hd
            obtain ⟨r3, r4⟩ := g.dp ry hds
            exact .inr (.inr (.inl ⟨d', ds, r1, r3, shaped_of r2 hz.1, shaped_of r4 hz.2, fin⟩))
          · cases e1
        · rename_i d' ds hd hds
          split at e1
          · rename_i hz
            cases e1
            obtain ⟨r1, r2⟩ := g.dp rx hd
            obtain ⟨r3, r4⟩ := g.dp ry hds
            exact .inr (.inr (.inr ⟨d', ds, r1, r3, shaped_of r2 hz.1, shaped_of r4 hz.2, fin⟩))
          · cases e1
        · cases e1
    · cases e1
def dIn (x y : Dt) (s : Sto) : Out Dt := ofO s ((inB s x y).map fun b => .bl b)
def dNotIn (x y : Dt) (s : Sto) : Out Dt := ofO s ((inB s x y).map fun b => .bl (!b))
section
variable {J : Cn} {X : Cx} {W : WX} {a b c e : Expr} {es : List Expr} {fa fb fc : Ex} {fs : List Ex} {ft fu : Tx} {pos : Pos}
theorem c_in (hu : X.A.units + 65 < cLine) : CmpOk J X .In dIn :=
  ⟨_, OpR.or op_in_sign (OpR.or op_in_seq (OpR.or (op_inD hu) (op_inT hu))), fun ρ F s H x y dx dy Q E g rx ry k => inB_of (f := fun b => b) ρ F s H x y dx dy Q E g rx ry k⟩
theorem c_notIn (hu : X.A.units + 65 < cLine) : CmpOk J X .NotIn dNotIn :=
  ⟨_, OpR.or op_notIn_sign (OpR.or op_notIn_seq (OpR.or (op_notInD hu) (op_notInT hu))), fun ρ F s H x y dx dy Q E g rx ry k => inB_of (f := fun b => !b) ρ F s H x y dx dy Q E g rx ry k⟩
/-! ### displays -/
theorem evs_len : ∀ {fs : List Ex} {env : En} {s s' : Sto} {ds : List Dt}, evs fs env s = .ok ds s' → ds.length = fs.length
  | [], env, s, s', ds, h => by simp only [evs, Out.ok.injEq] at h; rw [← h.1]; rfl
  | f :: fs, env, s, s', ds, h => by
    simp only [evs, bnd] at h
    cases e1 : f env s with
    | ok d s1 =>
      rw [e1] at h
      simp only [] at h
      cases e2 : evs fs env s1 with
      | ok ds' s2 =>
        rw [e2] at h
        simp only [Out.ok.injEq] at h
        rw [← h.1, List.length_cons, List.length_cons, evs_len e2]
      | exc c s2 => rw [e2] at h; cases h
      | bad => rw [e2] at h; cases h
    | exc c s1 => rw [e1] at h; cases h
    | bad => rw [e1] at h; cases h
theorem as_nil : ASo J X W [] [] := PA.imp pa_nil fun σ H Q ⟨env, ρ, F, s, g, l, k⟩ => k ρ F H [] LE.refl g (by simp only [Dens])
theorem as_cons (ha : ES J X W e fa) (hr : ASo J X W es fs) (hs : starEach (e :: es) X.env = (false, eval e X.env) :: starEach es X.env := by rfl) : ASo J X W (e :: es) (fa :: fs) :=
  PA.imp (pa_cons ha hr hs) fun σ H Q ⟨env, ρ, F, s, g, l, k⟩ => ⟨env, ρ, F, s, g, l, Po.bind k fun x s1 ρ1 F1 H1 v e1 l1 g1 r1 k1 =>
    ⟨env, ρ1, F1, s1, g1, l.mono l1, Po.bind k1 fun xs s2 ρ2 F2 H2 vs e2 l2 g2 r2 k2 => k2 ρ2 F2 H2 _ LE.refl g2 (by simp only [Dens]; exact ⟨v, vs, rfl, Den.mono l2 _ _ r1, r2⟩)⟩⟩
def eTup (fs : List Ex) : Ex := fun env => bnd (evs fs env) fun ds s => .ok (.tup ds) s
theorem new_tup {Γ : Wd} {ρ : List Addr} {F H : Hp} {s : Sto} {ds : List Dt} {xs : List V} {p : Addr} {Q : VK} {E : Value → Hp → Prop} (g : G Γ ρ F s H) (t : Dens Γ ρ F ds xs) (hz : ds.length ≤ sizeLine) (hp : H p = none) (k : EPo Γ ρ F H Q E (.ok (.tup ds) s)) : Q (.ref p) (upd H p (.tup xs)) := by
  refine k ρ _ _ _ (LE.frz g hp) (g.frz _ hp) ?_
  simp only [Den]
  exact ⟨hz, p, xs, rfl, upd_same, Dens.monoD (LD.upd (g.fnone hp)) _ _ t⟩
theorem es_tup {x1} (h : ASo J X W es fs) (hz : fs.length ≤ sizeLine := by decide) : ES J X W (.Tuple es x1 pos) (eTup fs) :=
  PE.imp (pe_tup h) fun σ H Q ⟨env, ρ, F, s, g, l, k⟩ => ⟨env, ρ, F, s, g, l, Po.bind k fun ds s1 ρ1 F1 H1 xs e1 l1 g1 r1 k1 => by
    have hl : ds.length ≤ sizeLine := by rw [evs_len e1]; exact hz
    exact ⟨by rw [← r1.length]; exact hl, fun p hp => new_tup g1 r1 hl hp k1⟩⟩
/-- a new list: one that never changes, or one of the store -/
def nwF (ds : List Dt) (s : Sto) : Out Dt := .ok (.lst ds) s
def nwM (ds : List Dt) (s : Sto) : Out Dt := .ok (.obj s.length) (s ++ [.lst ds])
def IsNw (nw : List Dt → Sto → Out Dt) : Prop := nw = nwF ∨ nw = nwM
theorem new_lst {nw : List Dt → Sto → Out Dt} (n : IsNw nw) {Γ : Wd} {ρ : List Addr} {F H : Hp} {s : Sto} {ds : List Dt} {xs : List V} {p : Addr} {Q : VK} {E : Value → Hp → Prop} (g : G Γ ρ F s H) (t : Dens Γ ρ F ds xs) (hz : ds.length ≤ sizeLine) (hp : H p = none) (k : EPo Γ ρ F H Q E (nw ds s)) : Q (.ref p) (upd H p (.lst xs)) := by
  rcases n with n | n
  · subst n
    refine k ρ _ _ _ (LE.frz g hp) (g.frz _ hp) ?_
    simp only [Den]
    exact ⟨hz, p, xs, rfl, upd_same, Dens.monoD (LD.upd (g.fnone hp)) _ _ t⟩
  · subst n
    refine k (ρ ++ [p]) F _ _ (LE.new hp) (g.new hp ⟨hz, xs, upd_same, Dens.monoD LD.push _ _ t⟩) ?_
    simp only [Den]
    exact ⟨p, rfl, by rw [← g.len, List.getElem?_append_right (Nat.le_refl _), Nat.sub_self]; rfl⟩
theorem isF : IsNw nwF := .inl rfl
theorem isM : IsNw nwM := .inr rfl
def eLst (nw : List Dt → Sto → Out Dt) (fs : List Ex) : Ex := fun env => bnd (evs fs env) nw
theorem es_lst {nw : List Dt → Sto → Out Dt} (n : IsNw nw) (h : ASo J X W es fs) (hz : fs.length ≤ sizeLine := by decide) : ES J X W (.List es pos) (eLst nw fs) :=
  PE.imp (pe_lst h) fun σ H Q ⟨env, ρ, F, s, g, l, k⟩ => ⟨env, ρ, F, s, g, l, Po.bind k fun ds s1 ρ1 F1 H1 xs e1 l1 g1 r1 k1 => by
    have hl : ds.length ≤ sizeLine := by rw [evs_len e1]; exact hz
    exact ⟨by rw [← r1.length]; exact hl, fun p hp => new_lst n g1 r1 hl hp k1⟩⟩
/-! ### a[b] -/
theorem strOk_mem {z : Str} {c : Nat} (h : PyData.strOk z = true) (hc : c ∈ z.cps.toList) : c < 0x110000 := by
  unfold PyData.strOk at h
  rw [Array.all_eq_true'] at h
  have := h c (Array.mem_toList_iff.mp hc)
  simpa using this
theorem strOk_of {z : Str} (h : ∀ c ∈ z.cps.toList, c < 0x110000) : PyData.strOk z = true := by
  unfold PyData.strOk
  rw [Array.all_eq_true']
  intro c hc
  simpa using h c (Array.mem_toList_iff.mpr hc)
theorem sok_of {z : Str} (h : ∀ c ∈ z.cps.toList, c < 0x110000) (k : z.length ≤ 1000000) : sok z = true := by
  unfold sok
  rw [strOk_of h, Bool.true_and]
  exact decide_eq_true k
theorem sok_mem {z : Str} {c : Nat} (h : sok z = true) (hc : c ∈ z.cps.toList) : c < 0x110000 := by
  unfold sok at h
  simp only [Bool.and_eq_true] at h
  exact strOk_mem h.1 hc
theorem sok_le {z : Str} (h : sok z = true) : z.length ≤ 1000000 := by
  unfold sok at h
  simp only [Bool.and_eq_true, decide_eq_true_eq] at h
  exact h.2
/-- a text made of signs of another one, not longer -/
theorem sok_sub {z y : Str} (h : sok z = true) (k : ∀ c ∈ y.cps.toList, c ∈ z.cps.toList) (l : y.length ≤ z.length) : sok y = true :=
  sok_of (fun c hc => sok_mem h (k c hc)) (Nat.le_trans l (sok_le h))
theorem sok_sign {z : Str} {c : Nat} (h : sok z = true) (hc : c ∈ z.cps.toList) : sok ⟨#[c]⟩ = true :=
  sok_of (fun d hd => by simp at hd; subst hd; exact sok_mem h hc) (by show 1 ≤ 1000000; decide)
def dIx (x y : Dt) (s : Sto) : Out Dt := match y with
  | .int i => match x with
    | .str z => ofO s ((atI z.cps.toList i).map fun c => .str ⟨#[c]⟩)
    | x => ofO s ((asQ s x).bind fun l => atI l i)
  | _ => .bad
theorem Dens.atI {Γ : Wd} {ρ : List Addr} {F : Hp} {ds : List Dt} {xs : List V} {i : Int} {d : Dt} (t : Dens Γ ρ F ds xs) (h : L2.atI ds i = some d) : ∃ v, L2.atI xs i = some v ∧ Den Γ ρ F d v := by
  unfold L2.atI at h ⊢
  rw [← t.length]
  obtain ⟨j, e1, e2⟩ := Option.bind_eq_some_iff.mp h
  obtain ⟨v, e3, r⟩ := t.get e2
  exact ⟨v, by rw [e1]; exact e3, r⟩
theorem atI_mem {α : Type} {l : List α} {i : Int} {d : α} (h : L2.atI l i = some d) : d ∈ l := by
  obtain ⟨j, _, e, _⟩ := atI_get h
  exact List.mem_of_getElem? e
theorem dIx_ok {Γ : Wd} : OpS Γ (rIx Γ.K) dIx := by
  intro ρ F s H x y dx dy Q E g rx ry k
  cases dy with
  | int i =>
    simp only [Den] at ry
    unfold dIx at k
    have gen : ∀ l, asQ s dx = some l → EPo Γ ρ F H Q E (ofO s (L2.atI l i)) → rIx Γ.K x y H Q := fun l hl k => by
      obtain ⟨d, e, k⟩ := Po.ofO k
      obtain ⟨a, xs, e1, q, t, _⟩ := g.sqQ rx hl
      obtain ⟨v, e2, r⟩ := t.atI e
      have fin := k ρ F H v LE.refl g r
      rcases q with q | q
      · exact .inl ⟨a, xs, i, v, e1, ry, q, e2, fin⟩
      · exact .inr (.inl ⟨a, xs, i, v, e1, ry, q, e2, fin⟩)
    cases dx with
    | str z =>
      obtain ⟨d, e, k⟩ := Po.ofO k
      obtain ⟨c, e1, e2⟩ := Option.map_eq_some_iff.mp e
      subst e2
      simp only [Den] at rx
      exact .inr (.inr ⟨z, i, c, rx.1, ry, sok_len rx.2, e1, k ρ F H _ LE.refl g (by simp only [Den]; exact ⟨trivial, sok_sign rx.2 (atI_mem e1)⟩)⟩)
    | tup l => exact gen l rfl k
    | lst l => exact gen l rfl k
    | lsk l => exact gen l rfl k
    | obj j =>
      simp only [] at k
      cases e : asQ s (.obj j) with
      | none => rw [e] at k; exact False.elim k
      | some l => rw [e] at k; exact gen l e k
    | _ => exact False.elim k
  | _ => exact False.elim k
theorem es_ix (ha : ES J X W a fa) (hb : ES J X W b fb) (hs : PlainIx b := by exact fun _ _ => rfl) : ES J X W (.Subscript a b pos) (eOp dIx fa fb) :=
  PE.imp (pe_ix ix_seq ha hb hs) fun _ _ _ h => tE_op dIx_ok h
/-! ### slices -/
def evp : Option Ex → En → Sto → Out (Option Int)
  | none, _, s => .ok none s
  | some f, env, s => bnd (f env) (fun d s => match d with | .int i => .ok (some i) s | _ => .bad) s
def tP (Γ : Wd) (W : WX) (f : Option Ex) : TO := fun σ H Q => ∃ env ρ F s, G Γ ρ F s H ∧ Sl Γ ρ F env σ ∧ Po Γ (fun _ _ (a b : Option Int) => a = b) ρ F H Q (fun c H' => W c none σ H') (evp f env s)
abbrev OS (J : Cn) (X : Cx) (W : WX) (e : Option Expr) (f : Option Ex) : Prop := PO X e (tP (wd J X) W f)
theorem PO.imp {X : Cx} {e : Option Expr} {t t' : TO} (h : PO X e t) (k : ∀ σ H Q, t' σ H Q → t σ H Q) : PO X e t' := ⟨fun pins s σ H Q I q => h.run pins s σ H Q I (k σ H Q q)⟩
theorem os_none : OS J X W none none := PO.imp po_none fun σ H Q ⟨env, ρ, F, s, g, l, k⟩ => k ρ F H none LE.refl g rfl
theorem os_some (h : ES J X W e fa) : OS J X W (some e) (some fa) := PO.imp (po_some h) fun σ H Q ⟨env, ρ, F, s, g, l, k⟩ => ⟨env, ρ, F, s, g, l, Po.bind k fun x s1 ρ1 F1 H1 v e1 l1 g1 r1 k1 => by
  cases x with
  | int i => simp only [Den] at r1; exact ⟨i, r1, k1 ρ1 F1 H1 _ LE.refl g1 rfl⟩
  | _ => exact False.elim k1⟩
def cutD {α : Type} (xs : List α) (lo hi : Option Int) : List α := (xs.drop (HT.sIx xs.length 0 lo)).take (HT.sIx xs.length xs.length hi - HT.sIx xs.length 0 lo)
theorem cutD_length {α : Type} (xs : List α) (lo hi : Option Int) : (cutD xs lo hi).length ≤ xs.length := by
  unfold cutD
  rw [List.length_take, List.length_drop]
  omega
theorem Dens.cut {Γ : Wd} {ρ : List Addr} {F : Hp} {ds : List Dt} {xs : List V} (t : Dens Γ ρ F ds xs) (lo hi : Option Int) : Dens Γ ρ F (cutD ds lo hi) (cutV xs lo hi) := by
  unfold cutD cutV
  rw [← t.length]
  exact Dens.take _ (Dens.drop _ t)
theorem sok_cut {z : Str} (h : sok z = true) (lo hi : Option Int) : sok (cutS z lo hi) = true :=
  sok_sub h (fun c hc => by
    unfold cutS at hc
    exact List.mem_of_mem_drop (List.mem_of_mem_take (by simpa using hc))) (cutS_length z lo hi)
def dSl (nw : List Dt → Sto → Out Dt) (x : Dt) (lo hi : Option Int) (s : Sto) : Out Dt := match x with
  | .str z => .ok (.str (cutS z lo hi)) s
  | .tup l => .ok (.tup (cutD l lo hi)) s
  | x => match asL s x with
    | some l => nw (cutD l lo hi) s
    | none => .bad
def eSl (nw : List Dt → Sto → Out Dt) (fa : Ex) (lo hi : Option Ex) : Ex := fun env => bnd (fa env) fun x => bnd (evp lo env) fun l => bnd (evp hi env) fun u => dSl nw x l u
theorem cut_whole {α : Type} {xs : List α} {lo hi : Option Int} (h : HT.sIx xs.length 0 lo = 0 ∧ HT.sIx xs.length xs.length hi = xs.length) : cutD xs lo hi = xs := by
  unfold cutD
  rw [h.1, h.2, List.drop_zero, Nat.sub_zero, List.take_length]
theorem dSl_ok {Γ : Wd} {nw : List Dt → Sto → Out Dt} (n : IsNw nw) {ρ : List Addr} {F H : Hp} {s : Sto} {x : V} {d : Dt} {lo hi : Option Int} {Q : VK} {E : Value → Hp → Prop} (g : G Γ ρ F s H) (r : Den Γ ρ F d x) (k : EPo Γ ρ F H Q E (dSl nw d lo hi s)) :
    rSlL Γ.K x lo hi H Q ∨ rSlA Γ.K x lo hi H Q ∨ rSlS x lo hi H Q := by
  have gen : ∀ l, asL s d = some l → EPo Γ ρ F H Q E (nw (cutD l lo hi) s) → rSlL Γ.K x lo hi H Q := fun l hl k => by
    obtain ⟨a, xs, e1, q, t, z⟩ := g.sqL r hl
    exact ⟨a, xs, e1, q, fun p hp => new_lst n g (t.cut lo hi) (Nat.le_trans (cutD_length _ _ _) z) hp k⟩
  cases d with
  | str z =>
    simp only [Den] at r
    exact .inr (.inr ⟨z, r.1, sok_len r.2, k ρ F H _ LE.refl g (by simp only [Den]; exact ⟨trivial, sok_cut r.2 lo hi⟩)⟩)
  | tup l =>
    obtain ⟨a, xs, e1, q, t, z⟩ := g.sqT r (l := l) rfl
    refine .inr (.inl ⟨a, xs, e1, q, fun hw => ?_, fun _ p hp => new_tup g (t.cut lo hi) (Nat.le_trans (cutD_length _ _ _) z) hp k⟩)
    rw [← t.length] at hw
    have e : dSl nw (.tup l) lo hi s = .ok (.tup l) s := by show Out.ok (Dt.tup (cutD l lo hi)) s = _; rw [cut_whole hw]
    rw [e] at k
    exact k ρ F H _ LE.refl g (by rw [← e1]; exact r)
  | lst l => exact .inl (gen l rfl k)
  | lsk l => exact .inl (gen l rfl k)
  | obj j =>
    cases e : asL s (.obj j) with
    | none => simp only [dSl, e] at k; exact False.elim k
    | some l => simp only [dSl, e] at k; exact .inl (gen l e k)
  | _ => exact False.elim k
theorem es_sl {nw : List Dt → Sto → Out Dt} (n : IsNw nw) {lo hi : Option Expr} {fl fh : Option Ex} {p2 : Pos} (ha : ES J X W a fa) (hl : OS J X W lo fl) (hh : OS J X W hi fh) : ES J X W (.Subscript a (.Slice lo hi none p2) pos) (eSl nw fa fl fh) :=
  PE.imp (pe_slice (SlR.or sl_list (SlR.or sl_tupA sl_str)) ha hl hh) fun σ H Q ⟨env, ρ, F, s, g, l, k⟩ => ⟨env, ρ, F, s, g, l, Po.bind k fun x s1 ρ1 F1 H1 v e1 l1 g1 r1 k1 =>
    ⟨env, ρ1, F1, s1, g1, l.mono l1, Po.bind k1 fun lo s2 ρ2 F2 H2 lo' e2 l2 g2 r2 k2 =>
      ⟨env, ρ2, F2, s2, g2, l.mono (l1.trans l2), Po.bind k2 fun hi s3 ρ3 F3 H3 hi' e3 l3 g3 r3 k3 => by
        subst r2; subst r3
        exact dSl_ok n g3 (Den.mono (l2.trans l3) _ _ r1) k3⟩⟩⟩
end
end Pd
namespace Pd
open PySem L2
section
variable {J : Cn} {X : Cx} {W : WX} {a b c e e2 : Expr} {es : List Expr} {fa fb fc fe : Ex} {fs : List Ex} {ft fu : Tx} {pos p : Pos}
/-! ### built-ins by their names -/
def C1S (Γ : Wd) (r : List V → Hp → VK → Prop) (op : Dt → Sto → Out Dt) : Prop := ∀ ρ F s H x dx Q E, G Γ ρ F s H → Den Γ ρ F dx x → EPo Γ ρ F H Q E (op dx s) → r [x] H Q
def C2S (Γ : Wd) (r : List V → Hp → VK → Prop) (op : Dt → Dt → Sto → Out Dt) : Prop := ∀ ρ F s H x y dx dy Q E, G Γ ρ F s H → Den Γ ρ F dx x → Den Γ ρ F dy y → EPo Γ ρ F H Q E (op dx dy s) → r [x, y] H Q
/-- a built-in of one argument that is known -/
def B1 (J : Cn) (X : Cx) (v : Value) (op : Dt → Sto → Out Dt) : Prop := ∃ r, CallR X v r ∧ C1S (wd J X) r op
def B2 (J : Cn) (X : Cx) (v : Value) (op : Dt → Dt → Sto → Out Dt) : Prop := ∃ r, CallR X v r ∧ C2S (wd J X) r op
theorem es_b1 {x : Str} {id : String} {op : Dt → Sto → Out Dt} (h : B1 J X (.builtin id) op) (hg : Gl X x) (hm : X.mg x = none) (hv : bootBuiltins x = some (.builtin id)) (ha : ES J X W e fe) (hn : x ≠ "__name__" := by decide) (hdb : (x == ("__debug__" : Str)) = false := by decide)
    (he : starEach (e :: []) X.env = (false, eval e X.env) :: starEach [] X.env := by rfl) : ES J X W (.Call (.Name x p) [e] [] pos) (eUn op fe) := by
  obtain ⟨r, hc, ho⟩ := h
  exact PE.imp (pe_callB hc hg hm hv (pa_cons ha pa_nil he) hn hdb he rfl) fun σ H Q ⟨env, ρ, F, s, g, l, k⟩ => ⟨env, ρ, F, s, g, l, Po.bind k fun x s1 ρ1 F1 H1 v e1 l1 g1 r1 k1 => ho ρ1 F1 s1 H1 v x Q _ g1 r1 k1⟩
theorem es_y1 {x : Str} {id : String} {op : Dt → Sto → Out Dt} (h : B1 J X (.type id) op) (hg : Gl X x) (hm : X.mg x = none) (hv : bootBuiltins x = some (.type id)) (ha : ES J X W e fe) (hn : x ≠ "__name__" := by decide) (hdb : (x == ("__debug__" : Str)) = false := by decide)
    (he : starEach (e :: []) X.env = (false, eval e X.env) :: starEach [] X.env := by rfl) : ES J X W (.Call (.Name x p) [e] [] pos) (eUn op fe) := by
  obtain ⟨r, hc, ho⟩ := h
  exact PE.imp (pe_callTy hc hg hm hv (pa_cons ha pa_nil he) hn hdb he rfl) fun σ H Q ⟨env, ρ, F, s, g, l, k⟩ => ⟨env, ρ, F, s, g, l, Po.bind k fun x s1 ρ1 F1 H1 v e1 l1 g1 r1 k1 => ho ρ1 F1 s1 H1 v x Q _ g1 r1 k1⟩
theorem es_b2 {x : Str} {id : String} {op : Dt → Dt → Sto → Out Dt} (h : B2 J X (.builtin id) op) (hg : Gl X x) (hm : X.mg x = none) (hv : bootBuiltins x = some (.builtin id)) (ha : ES J X W a fa) (hb : ES J X W b fb) (hn : x ≠ "__name__" := by decide) (hdb : (x == ("__debug__" : Str)) = false := by decide)
    (he : starEach [a, b] X.env = [(false, eval a X.env), (false, eval b X.env)] := by rfl) (he2 : starEach [b] X.env = [(false, eval b X.env)] := by rfl) : ES J X W (.Call (.Name x p) [a, b] [] pos) (eOp op fa fb) := by
  obtain ⟨r, hc, ho⟩ := h
  have h1 : starEach (a :: [b]) X.env = (false, eval a X.env) :: starEach [b] X.env := by rw [he2]; exact he
  have h2 : starEach (b :: []) X.env = (false, eval b X.env) :: starEach [] X.env := he2
  have h3 : (backTo pos (starEach [b] X.env)).any (·.1) = false := by rw [he2]; rfl
  exact PE.imp (pe_callB hc hg hm hv (pa_cons ha (pa_cons hb pa_nil h2) h1) hn hdb h1 h3) fun σ H Q ⟨env, ρ, F, s, g, l, k⟩ => ⟨env, ρ, F, s, g, l, Po.bind k fun x s1 ρ1 F1 H1 v e1 l1 g1 r1 k1 =>
    ⟨env, ρ1, F1, s1, g1, l.mono l1, Po.bind k1 fun y s2 ρ2 F2 H2 u e2 l2 g2 r2 k2 => ho ρ2 F2 s2 H2 v u x y Q _ g2 (Den.mono l2 _ _ r1) r2 k2⟩⟩
/-- len -/
def lenD (s : Sto) (d : Dt) : Option Nat := match d with
  | .str x => some x.length
  | .obj i => match s[i]? with
    | some (.lst l) => some l.length
    | some (.dic kvs) => some kvs.length
    | some (.dit kvs) => some kvs.length
    | _ => none
  | d => (asQ s d).map (·.length)
def dLen (d : Dt) (s : Sto) : Out Dt := ofO s ((lenD s d).map fun (n : Nat) => .int n)
theorem len_dict {X : Cx} : CallR X (.builtin "len") (fun xs H Q => ∃ a kvs, xs = [.ref a] ∧ Rd H a (.dK kvs) ∧ Q (.int kvs.length) H) := by
  intro pins s σ H xs us Q I r h
  obtain ⟨a, kvs, e, hd, q⟩ := h
  subst e
  obtain ⟨u, e, ru⟩ := vals1 r
  subst e
  obtain rfl : u = Value.ref a := ru
  exact d_len I hd fun t s' I' => ⟨.int kvs.length, H, I', ⟨t, rfl⟩, q⟩
theorem b_len : B1 J X (.builtin "len") dLen := ⟨_, CallR.or call_len (CallR.or len_dict call_len_dT), fun ρ F s H x dx Q E g rx k => by
  obtain ⟨d, e, k⟩ := Po.ofO k
  obtain ⟨n, e1, e2⟩ := Option.map_eq_some_iff.mp e
  subst e2
  have fin : Q (.int n) H := k ρ F H _ LE.refl g (by simp only [Den])
  have gen : ∀ l, asQ s dx = some l → n = l.length → (∃ x' n', [x] = [x'] ∧ LenV X.K x' H n' ∧ Q (.int n') H) := fun l hl hn => by
    obtain ⟨a, xs, e1, q, t, _⟩ := g.sqQ rx hl
    subst e1
    refine ⟨_, n, rfl, ?_, fin⟩
    rw [hn, t.length]
    rcases q with q | q
    · exact .inl ⟨xs, q, rfl⟩
    · exact .inr ⟨xs, q, rfl⟩
  cases dx with
  | str z =>
    simp only [Den] at rx
    simp only [lenD, Option.some.injEq] at e1
    obtain ⟨rx, hk⟩ := rx
    subst rx; subst e1
    exact .inl ⟨_, _, rfl, ⟨sok_len hk, rfl⟩, fin⟩
  | tup l => simp [lenD, asQ] at e1; exact .inl (gen l rfl e1.symm)
  | lst l => simp [lenD, asQ, asL] at e1; exact .inl (gen l rfl e1.symm)
  | lsk l => simp [lenD, asQ, asL] at e1; exact .inl (gen l rfl e1.symm)
  | obj i =>
    simp only [lenD] at e1
    split at e1
    · rename_i l hs
      cases e1
      exact .inl (gen l (by simp only [asQ, asL, hs]) rfl)
    · rename_i l hs
      cases e1
      simp only [Den] at rx
      obtain ⟨a, e2, q⟩ := rx
      subst e2
      obtain ⟨z, vs, hx, t⟩ := g.at_ i a _ q hs
      exact .inr (.inl ⟨a, vs, rfl, .inl hx, by rw [← t.length]; exact fin⟩)
    · rename_i l hs
      cases e1
      simp only [Den] at rx
      obtain ⟨a, e2, q⟩ := rx
      subst e2
      obtain ⟨z, vs, hx, t⟩ := g.at_ i a _ q hs
      exact .inr (.inr ⟨a, vs, rfl, hx, by rw [← t.length]; exact fin⟩)
    · cases e1
  | _ => simp [lenD, asQ, asL] at e1⟩
/-- ord -/
def dOrd (d : Dt) (s : Sto) : Out Dt := match d with
  | .str x => match x.cps.toList with
    | [c] => .ok (.int c) s
    | _ => .bad
  | _ => .bad
theorem b_ord : B1 J X (.builtin "ord") dOrd := ⟨_, call_ord, fun ρ F s H x dx Q E g rx k => by
  cases dx with
  | str z =>
    simp only [Den] at rx
    simp only [dOrd] at k
    split at k
    · rename_i c hc
      obtain ⟨rx, hk⟩ := rx
      have e := str_one hc
      subst e
      exact ⟨_, by rw [rx], rfl, k ρ F H _ LE.refl g (by simp only [Den]; rfl)⟩
    · exact False.elim k
  | _ => exact False.elim k⟩
/-- all, any of a list of truths -/
def asB : List Dt → Option (List Bool)
  | [] => some []
  | .bl b :: r => (asB r).map (b :: ·)
  | _ => none
theorem Dens.bools {Γ : Wd} {ρ : List Addr} {F : Hp} : ∀ {l : List Dt} {xs : List V} {bs : List Bool}, Dens Γ ρ F l xs → asB l = some bs → xs = bs.map V.bl
  | [], xs, bs, h, e => by simp only [Dens] at h; simp only [asB, Option.some.injEq] at e; subst e; exact h
  | d :: l, xs, bs, h, e => by
    simp only [Dens] at h
    obtain ⟨v, r, e1, q, t⟩ := h
    cases d with
    | bl b =>
      simp only [asB, Option.map_eq_some_iff] at e
      obtain ⟨bs', e2, e3⟩ := e
      simp only [Den] at q
      subst e3; subst e1; subst q
      rw [Dens.bools t e2]; rfl
    | _ => simp [asB] at e
def dAll (d : Dt) (s : Sto) : Out Dt := ofO s (((asL s d).bind asB).map fun bs => .bl (bs.all id))
def dAny (d : Dt) (s : Sto) : Out Dt := ofO s (((asL s d).bind asB).map fun bs => .bl (bs.any id))
theorem b_all (hc : X.calm = true) : B1 J X (.builtin "all") dAll := ⟨_, cr_all hc, fun ρ F s H x dx Q E g rx k => by
  obtain ⟨d, e, k⟩ := Po.ofO k
  obtain ⟨bs, e1, e2⟩ := Option.map_eq_some_iff.mp e
  obtain ⟨l, e3, e4⟩ := Option.bind_eq_some_iff.mp e1
  subst e2
  obtain ⟨a, xs, e5, q, t, _⟩ := g.sqL rx e3
  subst e5
  have e6 := t.bools e4
  subst e6
  exact ⟨a, bs, rfl, q, k ρ F H _ LE.refl g (by simp only [Den])⟩⟩
theorem b_any (hc : X.calm = true) : B1 J X (.builtin "any") dAny := ⟨_, cr_any hc, fun ρ F s H x dx Q E g rx k => by
  obtain ⟨d, e, k⟩ := Po.ofO k
  obtain ⟨bs, e1, e2⟩ := Option.map_eq_some_iff.mp e
  obtain ⟨l, e3, e4⟩ := Option.bind_eq_some_iff.mp e1
  subst e2
  obtain ⟨a, xs, e5, q, t, _⟩ := g.sqL rx e3
  subst e5
  have e6 := t.bools e4
  subst e6
  exact ⟨a, bs, rfl, q, k ρ F H _ LE.refl g (by simp only [Den])⟩⟩
def dMax := iOp (fun i j => .int (if j > i then j else i)) fun _ _ => true
def dMin := iOp (fun i j => .int (if j < i then j else i)) fun _ _ => true
theorem b_max (hc : X.calm = true) : B2 J X (.builtin "max") dMax := ⟨_, call_max2 hc, fun ρ F s H x y dx dy Q E g rx ry k => by
  obtain ⟨i, j, e1, e2, q⟩ := iOp_all (Γ := wd J X) (gv := fun i j => .int (if j > i then j else i)) (fun _ _ _ _ => by simp only [Den]) ρ F s H x y dx dy Q E g rx ry k
  subst e1; subst e2
  exact ⟨i, j, rfl, q⟩⟩
theorem b_min (hc : X.calm = true) : B2 J X (.builtin "min") dMin := ⟨_, call_min2 hc, fun ρ F s H x y dx dy Q E g rx ry k => by
  obtain ⟨i, j, e1, e2, q⟩ := iOp_all (Γ := wd J X) (gv := fun i j => .int (if j < i then j else i)) (fun _ _ _ _ => by simp only [Den]) ρ F s H x y dx dy Q E g rx ry k
  subst e1; subst e2
  exact ⟨i, j, rfl, q⟩⟩
def dInt (d : Dt) (s : Sto) : Out Dt := match d with
  | .int i => .ok (.int i) s
  | .bl b => .ok (.int (if b then 1 else 0)) s
  | _ => .bad
theorem b_int : B1 J X (.type "int") dInt := ⟨_, call_int1, fun ρ F s H x dx Q E g rx k => by
  cases dx with
  | int i => simp only [Den] at rx; subst rx; exact .inl ⟨i, rfl, k ρ F H _ LE.refl g (by simp only [Den])⟩
  | bl i => simp only [Den] at rx; subst rx; exact .inr ⟨i, rfl, k ρ F H _ LE.refl g (by simp only [Den])⟩
  | _ => exact False.elim k⟩
/-- list(x), tuple(x) of a list or a tuple -/
def dList (nw : List Dt → Sto → Out Dt) (d : Dt) (s : Sto) : Out Dt := match asQ s d with
  | some l => nw l s
  | none => .bad
theorem b_list {nw : List Dt → Sto → Out Dt} (n : IsNw nw) : B1 J X (.type "list") (dList nw) := ⟨_, call_list_of, fun ρ F s H x dx Q E g rx k => by
  unfold dList at k
  split at k
  · rename_i l hl
    obtain ⟨a, xs, e5, q, t, z⟩ := g.sqQ rx hl
    subst e5
    exact ⟨a, xs, rfl, q, fun p hp => new_lst n g t z hp k⟩
  · exact False.elim k⟩
def dTuple (d : Dt) (s : Sto) : Out Dt := ofO s ((asQ s d).map .tup)
theorem b_tuple : B1 J X (.type "tuple") dTuple := ⟨_, call_tuple_of, fun ρ F s H x dx Q E g rx k => by
  obtain ⟨d, e, k⟩ := Po.ofO k
  obtain ⟨l, e1, e2⟩ := Option.map_eq_some_iff.mp e
  subst e2
  have gen : asL s dx = some l → ∃ p ys, [x] = [V.ref p] ∧ ((SqL X.K H p ys ∧ ∀ l, H l = none → Q (.ref l) (upd H l (.tup ys))) ∨ (SqT X.K H p ys ∧ Q (.ref p) H)) := fun hl => by
    obtain ⟨a, xs, e5, q, t, z⟩ := g.sqL rx hl
    subst e5
    exact ⟨a, xs, rfl, .inl ⟨q, fun p hp => new_tup g t z hp k⟩⟩
  cases dx with
  | tup l' =>
    simp only [asQ, Option.some.injEq] at e1
    subst e1
    obtain ⟨a, xs, e6, q, t, z⟩ := g.sqT rx (l := l') rfl
    have fin := k ρ F H x LE.refl g rx
    subst e6
    exact ⟨a, xs, rfl, .inr ⟨q, fin⟩⟩
  | _ => exact gen e1⟩
end
end Pd
namespace Pd
open PySem L2
/-! ### statements -/
def sBnd {α : Type} (m : Sto → Out α) (env : En) (k : α → Sto → Res) (s : Sto) : Res := match m s with
  | .ok a s' => k a s'
  | .exc c s' => .exc c env s'
  | .bad => .bad
theorem FPo.bind {α β : Type} {Γ : Wd} {W : WX} {R1 : List Addr → Hp → α → β → Prop} {ρ : List Addr} {F H : Hp} {D : Ends} {Q1 : β → Hp → Prop} {m : Sto → Out α} {k : α → Sto → Res} {env : En} {σ : St} {s : Sto}
    (h : FPo Γ W ρ F H D (sBnd m env k s)) (sl : Sl Γ ρ F env σ) (hk : ∀ a s' ρ' F' H' v, m s = .ok a s' → LE ρ F H ρ' F' H' → G Γ ρ' F' s' H' → R1 ρ' F' a v → FPo Γ W ρ' F' H' D (k a s') → Q1 v H') : Po Γ R1 ρ F H Q1 (fun c H' => W c none σ H') (m s) := by
  unfold sBnd at h
  cases e : m s with
  | ok a s' =>
    rw [e] at h
    exact fun ρ' F' H' v l g r => hk a s' ρ' F' H' v e l g r (h.le l)
  | exc c s' =>
    rw [e] at h
    exact fun ρ' F' H' C l g r => h ρ' F' H' σ C l g (sl.mono l) r
  | bad => rw [e] at h; exact h
section
variable {J : Cn} {X : Cx} {W : WX} {a b c e e2 o : Expr} {es : List Expr} {fa fb fc fe fo : Ex} {fs : List Ex} {ft fu : Tx} {pos p : Pos} {st : Stmt} {rest : List Stmt} {f1 f2 : Sx}
def sNext : Sx := fun env s => .fl (.nx env) s
def sSeq (f g : Sx) : Sx := fun env s => match f env s with
  | .fl (.nx e) s' => g e s'
  | r => r
theorem ss_nil : SSs J X W [] sNext := PSs.imp pss_nil fun D σ H ⟨env, ρ, F, s, g, l, k⟩ => k ρ F H σ LE.refl g l
theorem ss_pass : SS J X W (.Pass pos) sNext := PS.imp ps_pass fun D σ H ⟨env, ρ, F, s, g, l, k⟩ => k ρ F H σ LE.refl g l
theorem ss_one (h : SS J X W st f1) : SSs J X W [st] f1 := pss_one h
theorem ss_cons (h1 : SS J X W st f1) (h2 : SSs J X W rest f2) : SSs J X W (st :: rest) (sSeq f1 f2) :=
  PSs.imp (pss_cons h1 h2) fun D σ H ⟨env, ρ, F, s, g, l, k⟩ => by
    refine ⟨env, ρ, F, s, g, l, ?_⟩
    unfold sSeq at k
    cases e : f1 env s with
    | fl f s1 =>
      rw [e] at k
      cases f with
      | nx e1 => exact fun ρ' F' H' σ' l' g' sl' => ⟨e1, ρ', F', s1, g', sl', k.le l'⟩
      | rt d => exact k
      | bk d => exact k
      | ct d => exact k
    | exc c e1 s1 => rw [e] at k; exact k
    | bad => rw [e] at k; exact k
def sBreak : Sx := fun env s => .fl (.bk env) s
theorem ss_break : SS J X W (.Break pos) sBreak := PS.imp ps_break fun D σ H ⟨env, ρ, F, s, g, l, k⟩ => k ρ F H σ LE.refl g l
def sCont : Sx := fun env s => .fl (.ct env) s
theorem ss_cont : SS J X W (.Continue pos) sCont := PS.imp ps_continue fun D σ H ⟨env, ρ, F, s, g, l, k⟩ => k ρ F H σ LE.refl g l
def sExpr (f : Ex) : Sx := fun env => sBnd (f env) env fun _ s => .fl (.nx env) s
theorem ss_expr (h : ES J X W e fe) (hs : swapsWith e none pos.line X.env = pure false := by rfl) : SS J X W (.Expr e pos) (sExpr fe) :=
  PS.imp (ps_expr h hs) fun D σ H ⟨env, ρ, F, s, g, l, k⟩ => ⟨env, ρ, F, s, g, l, FPo.bind k l fun d s1 ρ1 F1 H1 v e1 l1 g1 r1 k1 => k1 ρ1 F1 H1 σ LE.refl g1 (l.mono l1)⟩
def sRet (f : Ex) : Sx := fun env => sBnd (f env) env fun d s => .fl (.rt d) s
theorem ss_ret (h : ES J X W e fe) : SS J X W (.Return (some e) pos) (sRet fe) :=
  PS.imp (ps_ret h) fun D σ H ⟨env, ρ, F, s, g, l, k⟩ => ⟨env, ρ, F, s, g, l, FPo.bind k l fun d s1 ρ1 F1 H1 v e1 l1 g1 r1 k1 => k1 ρ1 F1 H1 v LE.refl g1 r1⟩
def sIf (t : Tx) (f g : Sx) : Sx := fun env => sBnd (t env) env fun c s => if c = true then f env s else g env s
theorem ss_if {x y : List Stmt} (hc : TSo J X W c ft) (ha : SSs J X W x f1) (hb : SSs J X W y f2) : SS J X W (.If c x y pos) (sIf ft f1 f2) :=
  PS.imp (ps_if hc ha hb) fun D σ H ⟨env, ρ, F, s, g, l, k⟩ => ⟨env, ρ, F, s, g, l, FPo.bind k l fun d s1 ρ1 F1 H1 v e1 l1 g1 r1 k1 => by
    subst r1
    cases d with
    | true => exact ⟨env, ρ1, F1, s1, g1, l.mono l1, k1⟩
    | false => exact ⟨env, ρ1, F1, s1, g1, l.mono l1, k1⟩⟩
/-! targets -/
abbrev Tg := Dt → En → Sto → Option En
def tG (Γ : Wd) (is : List Nat) (tg : Tg) : TG := fun v σ H Q => ∃ env ρ F s d env', G Γ ρ F s H ∧ Sl Γ ρ F env σ ∧ Den Γ ρ F d v ∧ tg d env s = some env' ∧
  ∀ σ', Sl Γ ρ F env' σ' → σ'.length = σ.length → (∀ j, j ∉ is → σ'[j]? = σ[j]?) → Q σ' H
abbrev GS (J : Cn) (X : Cx) (tgt : Expr) (is : List Nat) (tg : Tg) : Prop := PG X tgt (tG (wd J X) is tg)
theorem PG.imp {X : Cx} {e : Expr} {t t' : TG} (h : PG X e t) (k : ∀ v σ H Q, t' v σ H Q → t v σ H Q) : PG X e t' := ⟨fun pins s σ H v u Q I r q => h.run pins s σ H v u Q I r (k v σ H Q q)⟩
def gN (i : Nat) : Tg := fun d env _ => some (env.set i (some d))
theorem gs_name {i : Nat} (h : PG X e (gName i)) : GS J X e [i] (gN i) := PG.imp h fun v σ H Q ⟨env, ρ, F, s, d, env', g, l, r, e, k⟩ => by
  unfold gN at e
  cases e
  exact k _ (l.set r i) (by rw [List.length_set]) fun j hj => by rw [List.getElem?_set_ne (fun z => hj (by rw [z]; exact List.mem_singleton_self _))]
def setAll : List Nat → List Dt → En → Option En
  | [], [], env => some env
  | i :: is, d :: ds, env => setAll is ds (env.set i (some d))
  | _, _, _ => none
def tGs (Γ : Wd) (is : List Nat) : TGs := fun vs σ H Q => ∃ env ρ F s ds env', G Γ ρ F s H ∧ Sl Γ ρ F env σ ∧ Dens Γ ρ F ds vs ∧ setAll is ds env = some env' ∧
  ∀ σ', Sl Γ ρ F env' σ' → σ'.length = σ.length → (∀ j, j ∉ is → σ'[j]? = σ[j]?) → Q σ' H
abbrev GSs (J : Cn) (X : Cx) (tgs : List Expr) (is : List Nat) : Prop := PGs X tgs (tGs (wd J X) is)
theorem PGs.imp {X : Cx} {e : List Expr} {t t' : TGs} (h : PGs X e t) (k : ∀ v σ H Q, t' v σ H Q → t v σ H Q) : PGs X e t' := ⟨fun pins s σ H v u Q I r q => h.run pins s σ H v u Q I r (k v σ H Q q)⟩
theorem gss_nil : GSs J X [] [] := PGs.imp pgs_nil fun v σ H Q ⟨env, ρ, F, s, ds, env', g, l, r, e, k⟩ => by
  cases ds with
  | nil =>
    simp only [Dens] at r
    simp only [setAll, Option.some.injEq] at e
    subst e
    exact ⟨r, k σ l rfl fun _ _ => rfl⟩
  | cons d ds => simp [setAll] at e
theorem gss_cons {i : Nat} {is : List Nat} (h : PG X e (gName i)) (hr : GSs J X es is) (hs : (assignEach (e :: es) X.env).map (·.2) = assign e X.env :: (assignEach es X.env).map (·.2) := by rfl) : GSs J X (e :: es) (i :: is) :=
  PGs.imp (pgs_cons h hr hs) fun v σ H Q ⟨env, ρ, F, s, ds, env', g, l, r, e, k⟩ => by
    cases ds with
    | nil => simp [setAll] at e
    | cons d ds =>
      simp only [Dens] at r
      obtain ⟨v', vr, e1, q, t⟩ := r
      simp only [setAll] at e
      refine ⟨v', vr, e1, ?_⟩
      refine ⟨_, ρ, F, s, ds, env', g, l.set q i, t, e, fun σ' l' z1 z2 => k σ' l' (by rw [z1, List.length_set]) fun j hj => ?_⟩
      rw [z2 j (fun z => hj (List.mem_cons_of_mem _ z)), List.getElem?_set_ne (fun z => hj (by rw [z]; exact List.mem_cons_self))]
def gT (is : List Nat) : Tg := fun d env _ => match d with
  | .tup l => setAll is l env
  | _ => none
theorem setAll_len : ∀ {is : List Nat} {ds : List Dt} {env env' : En}, setAll is ds env = some env' → ds.length = is.length
  | [], [], env, env', h => rfl
  | i :: is, d :: ds, env, env', h => by simp only [setAll] at h; rw [List.length_cons, List.length_cons, setAll_len h]
  | [], d :: ds, env, env', h => by simp [setAll] at h
  | i :: is, [], env, env', h => by simp [setAll] at h
theorem gs_tup {is : List Nat} {k : Nat} (hc : X.calm = true) (h : GSs J X es is) (hn : (assignEach es X.env).length = is.length := by rfl) (hst : (assignEach es X.env).findIdx? (·.1) = none := by rfl) : GS J X (.Tuple es k pos) is (gT is) :=
  PG.imp (pg_tup hc h hn hst) fun v σ H Q ⟨env, ρ, F, s, d, env', g, l, r, e, q⟩ => by
    cases d with
    | tup ds =>
      simp only [gT] at e
      obtain ⟨x, xs, e1, q1, t, _⟩ := g.sqT r (l := ds) rfl
      exact ⟨x, xs, e1, q1, by rw [← t.length, setAll_len e], env, ρ, F, s, ds, env', g, l, t, e, q⟩
    | _ => simp [gT] at e
/-- target = e -/
def sAsg (f : Ex) (tg : Tg) : Sx := fun env => sBnd (f env) env fun d s => match tg d env s with
  | some e => .fl (.nx e) s
  | none => .bad
theorem asg_of {Γ : Wd} {is : List Nat} {tg : Tg} {D : Ends} {σ : St} {H : Hp} (h : tS Γ W (sAsg fe tg) D σ H) : tAsg (tE Γ W fe) (tG Γ is tg) D σ H := by
  obtain ⟨env, ρ, F, s, g, l, k⟩ := h
  refine ⟨env, ρ, F, s, g, l, FPo.bind k l fun d s1 ρ1 F1 H1 v e1 l1 g1 r1 k1 => ?_⟩
  cases e : tg d env s1 with
  | none => rw [e] at k1; exact False.elim k1
  | some env' =>
    rw [e] at k1
    exact ⟨env, ρ1, F1, s1, d, env', g1, l.mono l1, r1, e, fun σ' sl _ _ => k1 ρ1 F1 H1 σ' LE.refl g1 sl⟩
theorem ss_asg {tgt : Expr} {is : List Nat} {tg : Tg} (he : ES J X W e fe) (hg : GS J X tgt is tg) (hs : swapsWithSole [tgt] e pos.line X.env = pure false := by rfl) (hw : swappedStores [tgt] e X.env = pure none := by rfl)
    (h1 : (assignEach [tgt] X.env).map (·.2) = [assign tgt X.env] := by rfl) : SS J X W (.Assign [tgt] e pos) (sAsg fe tg) := PS.imp (ps_asg he hg hs hw h1) fun D σ H h => asg_of h
/-! attributes -/
theorem zip_lookup : ∀ {names : List Str} {vs : List V} {i : Nat} {f : Str} {v : V}, names.Nodup → names[i]? = some f → vs[i]? = some v → (names.zip vs).lookup f = some v
  | [], vs, i, f, v, nd, h1, h2 => by simp at h1
  | n :: ns, [], i, f, v, nd, h1, h2 => by simp at h2
  | n :: ns, x :: xs, 0, f, v, nd, h1, h2 => by
    simp at h1 h2
    subst h1; subst h2
    simp [List.lookup]
  | n :: ns, x :: xs, i + 1, f, v, nd, h1, h2 => by
    have nd' := List.nodup_cons.mp nd
    have hne : (f == n) = false := by
      rw [beq_eq_false_iff_ne]
      intro z
      subst z
      exact nd'.1 (List.mem_of_getElem? (by simpa using h1))
    show (List.lookup f ((n, x) :: ns.zip xs)) = some v
    rw [List.lookup_cons, hne]
    exact zip_lookup nd'.2 (by simpa using h1) (by simpa using h2)
theorem zip_miss : ∀ {names : List Str} {vs : List V} {f : Str}, f ∉ names → (names.zip vs).lookup f = none
  | [], vs, f, h => by simp
  | n :: ns, [], f, h => by simp
  | n :: ns, x :: xs, f, h => by
    have hne : (f == n) = false := by
      rw [beq_eq_false_iff_ne]
      intro z
      subst z
      exact h List.mem_cons_self
    show (List.lookup f ((n, x) :: ns.zip xs)) = none
    rw [List.lookup_cons, hne]
    exact zip_miss fun z => h (List.mem_cons_of_mem _ z)
/-- a store at place i: in its place, or behind the last one -/
def putI {α : Type} (i : Nat) (d : α) (l : List α) : List α := if i < l.length then l.set i d else l ++ [d]
theorem zip_put : ∀ {names : List Str} {vs : List V} {i : Nat} {f : Str} {v : V}, names.Nodup → names[i]? = some f → i ≤ vs.length → putF f v (names.zip vs) = names.zip (putI i v vs)
  | [], vs, i, f, v, nd, h1, h2 => by simp at h1
  | n :: ns, [], i, f, v, nd, h1, h2 => by
    simp at h2
    subst h2
    simp at h1
    subst h1
    simp [putI, putF]
  | n :: ns, x :: xs, 0, f, v, nd, h1, h2 => by
    simp at h1
    subst h1
    show (if n = n then _ else _) = _
    rw [if_pos rfl]
    rfl
  | n :: ns, x :: xs, i + 1, f, v, nd, h1, h2 => by
    have nd' := List.nodup_cons.mp nd
    have hne : ¬ n = f := by
      intro z
      subst z
      exact nd'.1 (List.mem_of_getElem? (by simpa using h1))
    show (if n = f then _ else (n, x) :: putF f v (ns.zip xs)) = _
    rw [if_neg hne, zip_put nd'.2 (by simpa using h1) (by simpa using h2)]
    unfold putI
    by_cases hi : i < xs.length
    · rw [if_pos hi, if_pos (by simpa using hi)]; rfl
    · rw [if_neg hi, if_neg (by simpa using hi)]; rfl
def insD (s : Sto) (c : Nat) (d : Dt) : Option (Nat × List Dt) := match d with
  | .obj j => match s[j]? with
    | some (.ins c' ds) => if c' = c then some (j, ds) else none
    | _ => none
  | _ => none
theorem G.ins {Γ : Wd} {ρ : List Addr} {F H : Hp} {s : Sto} (g : G Γ ρ F s H) {d : Dt} {v : V} {c j : Nat} {ds : List Dt} (r : Den Γ ρ F d v) (h : insD s c d = some (j, ds)) :
    ∃ a C dx vs, v = .ref a ∧ ρ[j]? = some a ∧ s[j]? = some (.ins c ds) ∧ Γ.cl c C ∧ H a = some (.ins C dx ((Γ.J c).2.zip vs)) ∧ Dens Γ ρ F ds vs ∧ ds.length ≤ (Γ.J c).2.length ∧ (Γ.J c).2.length < 1000 := by
  unfold insD at h
  split at h
  · rename_i j'
    split at h
    · rename_i c' ds' hs
      split at h
      · rename_i hc
        cases h
        subst hc
        simp only [Den] at r
        obtain ⟨a, e, q⟩ := r
        obtain ⟨C, dx, vs, h1, h2, h3, h4⟩ := g.at_ _ a _ q hs
        exact ⟨a, C, dx, vs, e, q, hs, h1, h2, h3, h4⟩
      · cases h
    · cases h
  · cases h
/-- what of the text an attribute asks -/
structure AtF (J : Cn) (K : PySem.W.Frag) (mg : Str → Option Value) (c i : Nat) (f : Str) : Prop where
  nm : (J c).2[i]? = some f
  nd : (J c).2.Nodup
  cl : ∀ C, mg (J c).1 = some (.ref C) → Cls K C ∧ NoAttr K C f
def eFld (c i : Nat) (fo : Ex) : Ex := fun env => bnd (fo env) fun d s => ofO s ((insD s c d).bind fun p => p.2[i]?)
theorem es_fld {c i : Nat} {f : Str} (A : AtF J X.K X.mg c i f) (ho : ES J X W o fo) (hb : attributeBase o f X.env (eval o X.env) = eval o X.env := by rfl) : ES J X W (.Attribute o f pos) (eFld c i fo) :=
  PE.imp (pe_fld ho hb) fun σ H Q ⟨env, ρ, F, s, g, l, k⟩ => ⟨env, ρ, F, s, g, l, Po.bind k fun d s1 ρ1 F1 H1 v e1 l1 g1 r1 k1 => by
    obtain ⟨d', e, k1⟩ := Po.ofO k1
    obtain ⟨⟨j, ds⟩, e2, e3⟩ := Option.bind_eq_some_iff.mp e
    obtain ⟨a, C, dx, vs, h1, h2, h3, h4, h5, h6, h7⟩ := g1.ins r1 e2
    obtain ⟨u, hu, ru⟩ := h6.get e3
    obtain ⟨hc, hn⟩ := A.cl C h4
    exact ⟨a, C, dx, _, u, h1, h5, hc, hn, zip_lookup A.nd A.nm hu, k1 ρ1 F1 H1 u LE.refl g1 ru⟩⟩
theorem Dens.putI {Γ : Wd} {ρ : List Addr} {F : Hp} {ds : List Dt} {vs : List V} {d : Dt} {v : V} (t : Dens Γ ρ F ds vs) (r : Den Γ ρ F d v) (i : Nat) : Dens Γ ρ F (Pd.putI i d ds) (Pd.putI i v vs) := by
  unfold Pd.putI
  rw [← t.length]
  split
  · exact Dens.set r i t
  · exact Dens.append t (Dens.one r)
def setFD (s : Sto) (c i : Nat) (d y : Dt) : Option Sto := (insD s c d).bind fun p => if i ≤ p.2.length then some (s.set p.1 (.ins c (putI i y p.2))) else none
def sSetF (c i : Nat) (fo fv : Ex) : Sx := fun env => sBnd (fv env) env fun y => sBnd (fo env) env fun d s => match setFD s c i d y with
  | some s' => .fl (.nx env) s'
  | none => .bad
theorem putI_len {α : Type} {i n : Nat} {d : α} {l : List α} (h : i < n) (k : l.length ≤ n) (hi : i ≤ l.length) : (putI i d l).length ≤ n := by
  unfold putI
  split
  · rw [List.length_set]; exact k
  · rw [List.length_append]; simp; omega
theorem ss_setF {c i : Nat} {f : Str} {value : Expr} {fv : Ex} {pos' : Pos} (A : AtF J X.K X.mg c i f) (ho : ES J X W o fo) (hv : ES J X W value fv) (hs : swapsWith value (some (.Attribute o f pos')) pos.line X.env = pure false := by rfl) : SS J X W (.Assign [.Attribute o f pos'] value pos) (sSetF c i fo fv) :=
  PS.imp (ps_fld ho hv hs) fun D σ H ⟨env, ρ, F, s, g, l, k⟩ => ⟨env, ρ, F, s, g, l, FPo.bind k l fun y s1 ρ1 F1 H1 v e1 l1 g1 r1 k1 =>
    ⟨env, ρ1, F1, s1, g1, l.mono l1, FPo.bind k1 (l.mono l1) fun d s2 ρ2 F2 H2 u e2 l2 g2 r2 k2 => by
      cases e : setFD s2 c i d y with
      | none => rw [e] at k2; exact False.elim k2
      | some s3 =>
        rw [e] at k2
        obtain ⟨⟨j, ds⟩, e3, e4⟩ := Option.bind_eq_some_iff.mp e
        simp only [] at e4
        split at e4
        · rename_i hi
          cases e4
          obtain ⟨a, C, dx, vs, h1, h2, h3, h4, h5, h6, h7, h8⟩ := g2.ins r2 e3
          obtain ⟨hc, hn⟩ := A.cl C h4
          have hin : i < (J c).2.length := (List.getElem?_eq_some_iff.mp A.nm).1
          have hvl : vs.length = ds.length := h6.length.symm
          refine ⟨a, C, dx, _, h1, h5, hc, hn, by rw [List.length_zip]; exact Nat.lt_of_le_of_lt (Nat.min_le_left _ _) h8, ?_⟩
          rw [zip_put A.nd A.nm (by rw [hvl]; exact hi)]
          refine k2 ρ2 F2 _ σ (LE.put (List.mem_of_getElem? h2)) (g2.put h2 (fun od u e => by rw [h5] at e; cases e) ⟨C, dx, _, h4, upd_same, Dens.putI h6 (Den.mono l2 _ _ r1) i, putI_len hin h7 hi, h8⟩) ((l.mono l1).mono l2)
        · cases e4⟩⟩
end
end Pd
namespace Pd
open PySem L2
/-! ### promises -/
/-- a def's meaning -/
abbrev Fn := List Dt → Sto → Out Dt
/-- a def keeps its meaning -/
def spD (Γ : Wd) (n : Nat) (m : Fn) : Sp := fun vs H Q E => ∃ ρ F s ds, G Γ ρ F s H ∧ Dens Γ ρ F ds vs ∧ ds.length = n ∧ EPo Γ ρ F H Q (fun c H' => E c none H') (m ds s)
/-- how errors leave a def: true, raised where nothing is handled; false, any -/
def cxt (z : Bool) (P : Program) (w : World) : CXT := match z with
  | true => L2N.CX P w
  | false => L2.CX P w
def Tks (z : Bool) (X : Cx) (W : WX) : Prop := match z with
  | true => L2N.Takes X W
  | false => L2.Takes X W
theorem xeN {X : Cx} {W : WX} {u : Value} {s : Shared} (x : L2N.XE X W u s) : L2.XE X W u s := by
  obtain ⟨a, B, sI, pins, σ, H, cls, d, e1, I, nb, up, sky, r⟩ := x
  refine ⟨a, B, sI, pins, σ, H, cls, d, e1, I, nb, up, ?_, r⟩
  rcases sky with ⟨h1, h2, h3, oe, vs, h4, h5, h6⟩ | ⟨h1, h2, h3, oe, vs, T, oT, ts, h4, h5, h6⟩ | ⟨h1, h2, h3, oe, vs, T, oT, ts, h4, h5, h6⟩
  · exact .inl ⟨h1, h2, h3, oe, vs, h4, h5.zc, h6⟩
  · exact .inr (.inl ⟨h1, h2, h3, oe, vs, T, oT, ts, h4, h5.zc, h6⟩)
  · exact .inr (.inr ⟨h1, h2, h3, oe, vs, T, oT, ts, h4, h5.zc, h6⟩)
theorem Tks.up {z : Bool} {X : Cx} {W : WX} (t : Tks false X W) : Tks z X W := match z with
  | true => fun u s x => t u s (xeN x)
  | false => t
theorem Tks.pass {z : Bool} {X : Cx} {W : WX} (t : Tks z X W) (σ : St) : PassesAt (cxt z X.prog X.w) X σ (WE W σ) := match z, t with
  | true, t => L2N.passAt t σ
  | false, t => L2.passAt t σ
theorem tks_of {z : Bool} {X : Cx} {E : XK} (hs : X.stack = X.env :: X.outer) (hf : X.env.frame = some X.env.locals) (hex : X.ex = []) {E1 : Value → Shared → Prop}
    (hx : X.xe = fun e s' => wpAny (model X.prog X.w) X.A (leaving X.env e) (fun _ s'' => cxt z X.prog X.w X.outer X.H_0 X.s_0 E e s'') E1 s') : Tks z X (fun cls d _ H => E cls d H) := match z, hx with
  | true, hx => L2N.takes_of hs hf hex hx
  | false, hx => L2.takes_of hs hf hex hx
theorem tks0 {z : Bool} {X : Cx} : Tks z X (fun _ _ _ _ => False) := Tks.up (z := z) takes0
/-- a def of the program by its meaning -/
structure Df (z : Bool) (P : Program) (w : World) (K : PySem.W.Frag) (mg : Str → Option Value) (base : Heap) (J : Cn) (k n : Nat) (f : Addr) (m : Fn) : Prop where
  ok : ∃ fd ps, FnOk P w K mg base (cxt z P w) k f fd ps (spD ⟨K, mg, J, w⟩ n m) ∧ Binds K fd ps []
abbrev DfX (z : Bool) (J : Cn) (X : Cx) (k n : Nat) (f : Addr) (m : Fn) : Prop := Df z X.prog X.w X.K X.mg X.base J k n f m
section
variable {J : Cn} {X : Cx} {W : WX} {a b c e e2 o : Expr} {es : List Expr} {fa fb fc fe fo : Ex} {fs : List Ex} {ft fu : Tx} {pos p apos : Pos} {st : Stmt} {rest : List Stmt} {f1 f2 : Sx}
def eCall (m : Fn) (fs : List Ex) : Ex := fun env => bnd (evs fs env) m
theorem es_call {k f : Nat} {x : Str} {m : Fn} {z : Bool} (tk : Tks z X W) (D : DfX z J X k (fs.length + 1) f m) (hr : Room k X.A) (hg : Gl X x) (hm : X.mg x = some (.ref f)) (hk : PySem.W.keepIn X.K (.ref f) = true) (ha : ASo J X W (e :: es) (fa :: fs))
    (hdb : (x == ("__debug__" : Str)) = false := by decide) (he : starEach (e :: es) X.env = (false, eval e X.env) :: starEach es X.env := by rfl) (hpl : (backTo pos (starEach es X.env)).any (·.1) = false := by rfl) :
    ES J X W (.Call (.Name x p) (e :: es) [] pos) (eCall m (fa :: fs)) := by
  obtain ⟨fd, ps, F, hb⟩ := D.ok
  exact PE.imp (pe_callS F hr hg hm hk hb (fun σ => tk.pass σ) ha hdb he hpl) fun σ H Q ⟨env, ρ, F, s, g, l, k⟩ => ⟨env, ρ, F, s, g, l, Po.bind k fun ds s1 ρ1 F1 H1 vs e1 l1 g1 r1 k1 => ⟨ρ1, F1, s1, ds, g1, r1, evs_len e1, k1⟩⟩
/-- a def without arguments -/
theorem es_call0 {k f : Nat} {x : Str} {m : Fn} {z : Bool} (tk : Tks z X W) (D : DfX z J X k 0 f m) (hr : Room k X.A) (hg : Gl X x) (hm : X.mg x = some (.ref f)) (hk : PySem.W.keepIn X.K (.ref f) = true) (hdb : (x == ("__debug__" : Str)) = false := by decide) :
    ES J X W (.Call (.Name x p) [] [] pos) (eCall m []) := by
  obtain ⟨fd, ps, F, hb⟩ := D.ok
  refine ⟨fun pins s σ H Q I h => ?_⟩
  obtain ⟨env, ρ, Fz, st, g, l, k⟩ := h
  refine wpAny_Call_Name_kw (ld_glob I hg hm ?_ hdb)
  exact PySem.W.callWith_K0 I.kIn hk (run_fnS (E := WE W) (us := []) (vs := []) F hr hb (tk.pass σ) I .nil ⟨ρ, Fz, st, [], g, by simp only [Dens], rfl, k⟩)
/-- what of the text a method asks -/
structure MeF (J : Cn) (K : PySem.W.Frag) (mg : Str → Option Value) (c : Nat) (m : Str) (C f : Addr) : Prop where
  mg : mg (J c).1 = some (.ref C)
  no : m ∉ (J c).2
  cl : Cls K C
  me : Meth K C m f
def eMeth (c : Nat) (m : Fn) (fo : Ex) (fs : List Ex) : Ex := fun env => bnd (fo env) fun x s => match insD s c x with
  | some _ => bnd (evs fs env) (fun ds => m (x :: ds)) s
  | none => .bad
theorem meth_of {c : Nat} {mn : Str} {C f : Addr} {m : Fn} {k : Nat} {pl : Sem Bool} {z : Bool} (tk : Tks z X W) (M : MeF J X.K X.mg c mn C f) (D : DfX z J X k (fs.length + 1) f m) (hr : Room k X.A) (ho : ES J X W o fo) (ha : ASo J X W es fs)
    (hcw : ∀ (pins : List (Addr × Obj)) (σ : St) (x : Addr) (s1 : Shared) (H1 : Hp) (Q : Value → Shared → Prop), Inv X pins σ H1 s1 → tA (wd J X) W fs σ H1 (fun vs H2 => ∀ us s2, Inv X pins σ H2 s2 → Vals vs us → wpAny (model X.prog X.w) X.A (call (.ref f) (.ref x :: us)) Q X.xe s2) →
      wpAny (model X.prog X.w) X.A (callWith pos (.ref f) [.ref x] (backTo pos (starEach es X.env)) (backToKw pos (keywordEach [] X.env))) Q X.xe s1)
    (ht : eval (.Call (.Attribute o mn apos) es [] pos) X.env = (do
      let ov ← eval o X.env
      standAt apos.atName
      let (f, first) ← holding [ov] (getMethod ov mn pl)
      callWith pos f first (backTo pos (starEach es X.env)) (backToKw pos (keywordEach [] X.env)))) :
    ES J X W (.Call (.Attribute o mn apos) es [] pos) (eMeth c m fo fs) := by
  obtain ⟨fd, ps, Fk, hb⟩ := D.ok
  refine ⟨fun pins s σ H Q I h => ?_⟩
  obtain ⟨env, ρ, F, st, g, l, k⟩ := h
  refine methcall_of ho I ⟨env, ρ, F, st, g, l, Po.bind k fun d s1 ρ1 F1 H1 v e1 l1 g1 r1 k1 => ?_⟩ ht
  cases e : insD s1 c d with
  | none => rw [e] at k1; exact False.elim k1
  | some q =>
    obtain ⟨j, ds⟩ := q
    rw [e] at k1
    obtain ⟨x, C', dx, vs, h1, h2, h3, h4, h5, h6, h7⟩ := g1.ins r1 e
    have eC : C' = C := by
      have z := h4.symm.trans M.mg
      cases z
      rfl
    subst eC
    refine ⟨x, C', dx, _, f, h1, h5, M.cl, M.me, zip_miss M.no, fun s2 I2 => hcw pins σ x s2 H1 _ I2 ?_⟩
    refine ⟨env, ρ1, F1, s1, g1, l.mono l1, Po.bind k1 fun as s3 ρ3 F3 H3 ws e3 l3 g3 r3 k3 us s4 I4 rv => ?_⟩
    refine run_fnS (E := WE W) (us := .ref x :: us) (vs := .ref x :: ws) Fk hr hb (tk.pass σ) I4 (.cons rfl rv) ⟨ρ3, F3, s3, d :: as, g3, ?_, by rw [List.length_cons, evs_len e3], k3⟩
    simp only [Dens]
    exact ⟨v, ws, by rw [h1], Den.mono l3 _ _ r1, r3⟩
theorem es_meth {c : Nat} {mn : Str} {C f : Addr} {m : Fn} {k : Nat} {pl : Sem Bool} {z : Bool} (tk : Tks z X W) (M : MeF J X.K X.mg c mn C f) (D : DfX z J X k (fs.length + 2) f m) (hr : Room k X.A) (ho : ES J X W o fo) (ha : ASo J X W (e :: es) (fa :: fs))
    (hst : starEach (e :: es) X.env = (false, eval e X.env) :: starEach es X.env := by rfl) (hpl : (backTo pos (starEach es X.env)).any (·.1) = false := by rfl)
    (ht : eval (.Call (.Attribute o mn apos) (e :: es) [] pos) X.env = (do
      let ov ← eval o X.env
      standAt apos.atName
      let (f, first) ← holding [ov] (getMethod ov mn pl)
      callWith pos f first (backTo pos (starEach (e :: es) X.env)) (backToKw pos (keywordEach [] X.env))) := by rfl) :
    ES J X W (.Call (.Attribute o mn apos) (e :: es) [] pos) (eMeth c m fo (fa :: fs)) :=
  meth_of (pl := pl) tk M D hr ho ha (fun pins σ x s1 H1 Q I1 h => PySem.W.callWith_K (first := [.ref x]) (h₀ := X.base) I1.ok.mod.kin M.me.kp (thn (ha.run pos pins s1 σ H1 _ I1 h) fun us s2 ⟨vs, H2, I2, r, q⟩ => ⟨I2.kIn, q us s2 I2 r⟩) hst hpl) ht
theorem es_meth0 {c : Nat} {mn : Str} {C f : Addr} {m : Fn} {k : Nat} {pl : Sem Bool} {z : Bool} (tk : Tks z X W) (M : MeF J X.K X.mg c mn C f) (D : DfX z J X k 1 f m) (hr : Room k X.A) (ho : ES J X W o fo)
    (ht : eval (.Call (.Attribute o mn apos) [] [] pos) X.env = (do
      let ov ← eval o X.env
      standAt apos.atName
      let (f, first) ← holding [ov] (getMethod ov mn pl)
      callWith pos f first (backTo pos (starEach [] X.env)) (backToKw pos (keywordEach [] X.env))) := by rfl) :
    ES J X W (.Call (.Attribute o mn apos) [] [] pos) (eMeth c m fo []) :=
  meth_of (pl := pl) (fs := []) tk M D hr ho as_nil (fun pins σ x s1 H1 Q I1 ⟨env, ρ, F, s, g, l, k⟩ => PySem.W.callWith_K0 (first := [.ref x]) I1.kIn M.me.kp (k ρ F H1 [] LE.refl g (by simp only [Dens]) [] s1 I1 .nil)) ht
/-- what of the text the making of an object asks -/
structure MkF (J : Cn) (K : PySem.W.Frag) (mg : Str → Option Value) (c : Nat) (C f : Addr) : Prop where
  mg : mg (J c).1 = some (.ref C)
  mak : Mk K C f
  few : (J c).2.length < 1000
def eMake (c : Nat) (m : Fn) (fs : List Ex) : Ex := fun env => bnd (evs fs env) fun ds s => bnd (m (.obj s.length :: ds)) (fun _ s' => .ok (.obj s.length) s') (s ++ [.ins c []])
theorem make_of {c : Nat} {C f : Addr} {m : Fn} {k n : Nat} {z : Bool} (tk : Tks z X W) (M : MkF J X.K X.mg c C f) (D : DfX z J X k (n + 1) f m) (hr : Room (k + 1) X.A)
    (hnon : ∀ ds s d s', m ds s = .ok d s' → d = .non) {pins : List (Addr × Obj)} {σ : St} {H : Hp} {s : Shared} {ρ : List Addr} {F : Hp} {st : Sto} {ds : List Dt} {us : List Value} {vs : List V} {Q : VK} (I : Inv X pins σ H s) (r : Vals vs us) (g : G (wd J X) ρ F st H) (t : Dens (wd J X) ρ F ds vs) (hn : ds.length = n)
    (q : EPo (wd J X) ρ F H Q (fun c H' => W c none σ H') (bnd (m (.obj st.length :: ds)) (fun _ s' => .ok (.obj st.length) s') (st ++ [.ins c []]))) : wpAny (model X.prog X.w) X.A (call (.ref C) us) (EP X pins σ Q) X.xe s := by
  obtain ⟨fd, ps, Fk, hb⟩ := D.ok
  have I2 := Inv.made (C := C) I
  have n1 : H (s.heap.objs.size + 1) = none := I.hok.fresh (Nat.le_succ _)
  have n0 : H s.heap.objs.size = none := I.hok.fresh (Nat.le_refl _)
  have ne : s.heap.objs.size + 1 ≠ s.heap.objs.size := Nat.succ_ne_self _
  have g1 : G (wd J X) ρ F st (upd H s.heap.objs.size (.own (s.heap.objs.size + 1))) := g.skip _ n0
  have n1' : upd H s.heap.objs.size (.own (s.heap.objs.size + 1)) (s.heap.objs.size + 1) = none := by rw [upd_ne ne]; exact n1
  have g2 : G (wd J X) (ρ ++ [s.heap.objs.size + 1]) F (st ++ [.ins c []]) (upd (upd H s.heap.objs.size (.own (s.heap.objs.size + 1))) (s.heap.objs.size + 1) (.ins C s.heap.objs.size [])) :=
    g1.new n1' ⟨C, s.heap.objs.size, [], M.mg, by rw [upd_same]; simp, by simp only [Dens], Nat.zero_le _, M.few⟩
  have l2 : LE ρ F H (ρ ++ [s.heap.objs.size + 1]) F (upd (upd H s.heap.objs.size (.own (s.heap.objs.size + 1))) (s.heap.objs.size + 1) (.ins C s.heap.objs.size [])) := (LE.skip n0).trans (LE.new n1')
  have hob : Den (wd J X) (ρ ++ [s.heap.objs.size + 1]) F (.obj st.length) (.ref (s.heap.objs.size + 1)) := by
    simp only [Den]
    exact ⟨_, rfl, by rw [← g.len, List.getElem?_append_right (Nat.le_refl _), Nat.sub_self]; rfl⟩
  have hsp : spD (wd J X) (n + 1) m (.ref (s.heap.objs.size + 1) :: vs) (upd (upd H s.heap.objs.size (.own (s.heap.objs.size + 1))) (s.heap.objs.size + 1) (.ins C s.heap.objs.size [])) (fun v H2 => v = .non ∧ Q (.ref (s.heap.objs.size + 1)) H2) (WE W σ) := by
    refine ⟨_, F, _, .obj st.length :: ds, g2, ?_, by rw [List.length_cons, hn], ?_⟩
    · simp only [Dens]
      exact ⟨_, vs, rfl, hob, Dens.mono l2 _ _ t⟩
    · have q2 := q.mono l2 (fun _ _ z => z) fun _ _ z => z
      refine Po.bind q2 fun d s3 ρ3 F3 H3 v e3 l3 g3 r3 k3 => ?_
      have ed := hnon _ _ _ _ e3
      subst ed
      simp only [Den] at r3
      exact ⟨r3, k3 ρ3 F3 H3 _ LE.refl g3 (Den.mono l3 _ _ hob)⟩
  have r2 : Vals (V.ref (s.heap.objs.size + 1) :: vs) (Value.ref (s.heap.objs.size + 1) :: us) := .cons rfl r
  have hl : (Value.ref (s.heap.objs.size + 1) :: us).length = ps.length := by rw [← r2.length]; exact Fk.len _ _ _ _ hsp
  have b2 := hb { s with heap := (s.heap.push PySem.W.emptyDict).push (PySem.W.instObj C s.heap.objs.size) } (Value.ref (s.heap.objs.size + 1) :: us) I2.kIn (by rw [List.append_nil]; exact hl)
  rw [List.append_nil] at b2
  refine wpAny_call (make_map (f := f) I.kIn M.mak.makes M.mak.init (beq_iff_eq.mp M.mak.fn) (codeAny_mono (Fk.run _ X.stack _ _ ⟨Value.ref (s.heap.objs.size + 1) :: us, []⟩ _ _ _ (WE W σ) (hr.make C us []) (I2.env0.make C us []) b2 r2 hsp) fun rs s' hq => ?_))
  cases rs with
  | error e => exact tk.pass σ pins _ _ e s' I2 hq
  | ok fl =>
    cases fl with
    | ret u =>
      obtain ⟨v, H', I3, rv, ev, q3⟩ := I2.after hq
      subst ev
      exact ⟨rv, ⟨V.ref (s.heap.objs.size + 1), H', I3, rfl, q3⟩⟩
    | _ => exact False.elim hq
theorem es_make {c : Nat} {x : Str} {C f : Addr} {m : Fn} {k : Nat} {z : Bool} (tk : Tks z X W) (M : MkF J X.K X.mg c C f) (D : DfX z J X k (fs.length + 2) f m) (hr : Room (k + 1) X.A) (hnon : ∀ ds s d s', m ds s = .ok d s' → d = .non) (hx : (J c).1 = x) (hg : Gl X x) (ha : ASo J X W (e :: es) (fa :: fs))
    (hdb : (x == ("__debug__" : Str)) = false := by decide) (he : starEach (e :: es) X.env = (false, eval e X.env) :: starEach es X.env := by rfl) (hpl : (backTo pos (starEach es X.env)).any (·.1) = false := by rfl) :
    ES J X W (.Call (.Name x p) (e :: es) [] pos) (eMake c m (fa :: fs)) := by
  refine ⟨fun pins s σ H Q I h => ?_⟩
  obtain ⟨env, ρ, F, st, g, l, k⟩ := h
  refine wpAny_Call_Name_kw (ld_glob I hg (by rw [← hx]; exact M.mg) ?_ hdb)
  refine PySem.W.callWith_K (h₀ := X.base) I.ok.mod.kin M.mak.kp (thn (ha.run pos pins s σ H (fun vs H1 => ∀ us s1, Inv X pins σ H1 s1 → Vals vs us → wpAny (model X.prog X.w) X.A (call (.ref C) us) (EP X pins σ Q) X.xe s1) I ⟨env, ρ, F, st, g, l, Po.bind k fun ds s1 ρ1 F1 H1 vs e1 l1 g1 r1 k1 us s2 I2 rv => make_of tk M D hr hnon I2 rv g1 r1 (evs_len e1) k1⟩) fun us s1 ⟨vs, H1, I1, r, q⟩ => ⟨I1.kIn, q us s1 I1 r⟩) he hpl
theorem es_make0 {c : Nat} {x : Str} {C f : Addr} {m : Fn} {k : Nat} {z : Bool} (tk : Tks z X W) (M : MkF J X.K X.mg c C f) (D : DfX z J X k 1 f m) (hr : Room (k + 1) X.A) (hnon : ∀ ds s d s', m ds s = .ok d s' → d = .non) (hx : (J c).1 = x) (hg : Gl X x)
    (hdb : (x == ("__debug__" : Str)) = false := by decide) :
    ES J X W (.Call (.Name x p) [] [] pos) (eMake c m []) := by
  refine ⟨fun pins s σ H Q I h => ?_⟩
  obtain ⟨env, ρ, F, st, g, l, k⟩ := h
  refine wpAny_Call_Name_kw (ld_glob I hg (by rw [← hx]; exact M.mg) ?_ hdb)
  exact PySem.W.callWith_K0 I.kIn M.mak.kp (make_of (us := []) (vs := []) (ds := []) tk M D hr hnon I .nil g (by simp only [Dens]) rfl k)
/-! ### a def by its body -/
def fnOf (n : Nat) (f : Sx) : Fn := fun ds s => match f (ds.map some ++ List.replicate (n - ds.length) none) s with
  | .fl (.rt d) s' => .ok d s'
  | .fl (.nx _) s' => .ok .non s'
  | .exc c _ s' => .exc c s'
  | _ => .bad
end
theorem Dens.slots {Γ : Wd} {ρ : List Addr} {F : Hp} {ds : List Dt} {vs : List V} (t : Dens Γ ρ F ds vs) (N : List Str) : Sl Γ ρ F (ds.map some ++ List.replicate (N.length - ds.length) none) (L2.start N vs) := by
  unfold L2.start
  refine ⟨by simp [t.length], fun i d h => ?_⟩
  by_cases hi : i < ds.length
  · rw [List.getElem?_append_left (by simpa using hi), List.getElem?_map] at h
    obtain ⟨d', e1, e2⟩ := Option.map_eq_some_iff.mp h
    cases e2
    obtain ⟨v, e3, r⟩ := t.get e1
    exact ⟨v, by rw [List.getElem?_append_left (by rw [List.length_map, ← t.length]; exact hi), List.getElem?_map, e3]; rfl, r⟩
  · rw [List.getElem?_append_right (by simpa using hi), List.getElem?_replicate] at h
    split at h
    · simp at h
    · cases h
/-- the same def by a meaning that ends alike wherever the first one ends well -/
theorem Df.imp {z : Bool} {P : Program} {w : World} {K : PySem.W.Frag} {mg : Str → Option Value} {base : Heap} {J : Cn} {k n : Nat} {f : Addr} {m m' : Fn} (D : Df z P w K mg base J k n f m)
    (h : ∀ ds s, ds.length = n → m' ds s ≠ .bad → m ds s = m' ds s) : Df z P w K mg base J k n f m' := by
  obtain ⟨fd, ps, F, hb⟩ := D.ok
  refine ⟨fd, ps, F.imp fun vs H Q E ⟨ρ, Fz, s, ds, g, t, z, q⟩ => ⟨ρ, Fz, s, ds, g, t, z, ?_⟩, hb⟩
  rw [h ds s z (fun e => by rw [e] at q; exact q)]
  exact q
theorem Df.mono {z : Bool} {P : Program} {w : World} {K : PySem.W.Frag} {mg : Str → Option Value} {base : Heap} {J : Cn} {k k' n : Nat} {f : Addr} {m : Fn} (D : Df z P w K mg base J k n f m) (h : k ≤ k') : Df z P w K mg base J k' n f m := by
  obtain ⟨fd, ps, F, hb⟩ := D.ok
  exact ⟨fd, ps, F.mono h, hb⟩
theorem okC {P : Program} {w : World} {K : PySem.W.Frag} {mg : Str → Option Value} {base : Heap} {CX : CXT} {x qual : Str} {st : Stmt} {f : Addr} {fd : FuncData} {N ps : List Str} {k : Nat} {sp : Sp} (F : Fun K x qual st f fd) (S : FnScope N ps (defScope st)) (len : ∀ vs H Q E, sp vs H Q E → vs.length = ps.length)
    (hbody : ∀ (cdv : Value) (A : Around) (outer : List Env) (s : Shared) (H : Hp) (vs : List V) (Q : VK) (E : XK), Room k (A.deeper (PyProof.Rows.envOfC qual (defScope st) s.heap.objs.size f cdv)) → sp vs H Q E →
      ∃ t, PSs (cxOf CX P w K mg base N qual (defScope st) f cdv A outer s H E) (defBody st) t ∧ t { nx := fun _ H' => Q .non H', rt := Q } (L2.start N vs) H) : FnOk P w K mg base CX (k + 1) f fd ps sp := by
  obtain ⟨oc, od, kV, doc, pm, an, cdv, ct, osl, e, lk, hcd⟩ := F.ex
  subst e
  exact fn_of lk hcd S len (hbody cdv)
theorem fn_of_body {z : Bool} {P : Program} {w : World} {K : PySem.W.Frag} {mg : Str → Option Value} {base : Heap} {J : Cn} {k n : Nat} {f : Addr} {m : Fn} {fd : FuncData} {ps : List Str} {x qual : Str} {st : Stmt} {N : List Str} {fb : Sx}
    (F : Fun K x qual st f fd) (S : FnScope N ps (defScope st)) (hn : ps.length = n) (hm : m = fnOf N.length fb)
    (body : ∀ (cdv : Value) (A : Around) (outer : List Env) (s : Shared) (H : Hp) (E : XK), Room k (A.deeper (PyProof.Rows.envOfC qual (defScope st) s.heap.objs.size f cdv)) →
      SSs J (cxOf (cxt z P w) P w K mg base N qual (defScope st) f cdv A outer s H E) (fun cls d _ H' => E cls d H') (defBody st) fb) : FnOk P w K mg base (cxt z P w) (k + 1) f fd ps (spD ⟨K, mg, J, w⟩ n m) := by
  subst hn; subst hm
  refine okC F S (fun vs H Q E h => ?_) (fun cdv A outer s H vs Q E hr h => ⟨_, body cdv A outer s H E hr, ?_⟩)
  · obtain ⟨ρ, F, s, ds, g, t, z, _⟩ := h
    rw [← t.length, z]
  · obtain ⟨ρ, Fz, so, ds, g, t, z, q⟩ := h
    refine ⟨_, ρ, Fz, so, g, t.slots N, ?_⟩
    unfold fnOf at q
    cases e : fb (ds.map some ++ List.replicate (N.length - ds.length) none) so with
    | fl f s' =>
      rw [e] at q
      cases f with
      | nx e1 => exact fun ρ' F' H' σ' l' g' _ => q ρ' F' H' .non l' g' (by simp only [Den])
      | rt d => exact q
      | bk d => exact False.elim q
      | ct d => exact False.elim q
    | exc c e1 s' =>
      rw [e] at q
      exact fun ρ' F' H' σ' C l' g' _ hC => q ρ' F' H' C l' g' hC
    | bad => rw [e] at q; exact q
theorem df_of {z : Bool} {P : Program} {w : World} {K : PySem.W.Frag} {mg : Str → Option Value} {base : Heap} {J : Cn} {x qual : Str} {st : Stmt} {f : Addr} {fd : FuncData} {N ps : List Str} {k : Nat} {fb : Sx}
    (F : Fun K x qual st f fd) (S : FnScope N ps (defScope st)) (hb : Binds K fd ps [])
    (body : ∀ (cdv : Value) (A : Around) (outer : List Env) (s : Shared) (H : Hp) (E : XK), Room k (A.deeper (PyProof.Rows.envOfC qual (defScope st) s.heap.objs.size f cdv)) →
      SSs J (cxOf (cxt z P w) P w K mg base N qual (defScope st) f cdv A outer s H E) (fun cls d _ H' => E cls d H') (defBody st) fb) : Df z P w K mg base J (k + 1) ps.length f (fnOf N.length fb) :=
  ⟨fd, ps, fn_of_body F S rfl rfl body, hb⟩
/-- the law's own promise at the script -/
theorem law_sp {K : PySem.W.Frag} {mg : Str → Option Value} {J : Cn} {w : World} {m : Fn} (h : ∀ ns : List Int, ns.length ≤ 63 → ∃ s, m [.lsk (ns.map .int)] [] = .ok (.bl true) s) {H : Hp} {a : Addr} {ns : List Int} (hl : ns.length ≤ 63) (hs : SqL K H a (ns.map V.int)) :
    spD ⟨K, mg, J, w⟩ 1 m [.ref a] H (fun v _ => v = .bl true) fun _ _ _ => False := by
  obtain ⟨s, e⟩ := h ns hl
  refine ⟨[], H, [], [.lsk (ns.map .int)], ⟨fun _ _ h => h, rfl, List.nodup_nil, (fun _ h => nomatch h), (fun i a mo h => by simp at h)⟩, ?_, rfl, ?_⟩
  · simp only [Dens, Den]
    refine ⟨_, _, rfl, ⟨by rw [List.length_map, sizeLine_eq]; omega, a, _, rfl, hs, ?_⟩, rfl⟩
    clear e hl hs
    induction ns with
    | nil => simp only [List.map_nil, Dens]
    | cons n ns ih =>
      simp only [List.map_cons, Dens]
      exact ⟨_, _, rfl, by simp only [Den], ih⟩
  · rw [e]
    intro ρ' F' H' v l g r
    simp only [Den] at r
    exact r
/-! ### a body that hands back nothing -/
def NoRt (f : Sx) : Prop := ∀ env s d s', f env s ≠ .fl (.rt d) s'
theorem noRt_next : NoRt sNext := fun env s d s' h => by cases h
theorem noRt_expr {f : Ex} : NoRt (sExpr f) := fun env s d s' h => by
  unfold sExpr sBnd at h
  split at h <;> cases h
theorem noRt_setF {c i : Nat} {fo fv : Ex} : NoRt (sSetF c i fo fv) := fun env s d s' h => by
  unfold sSetF sBnd at h
  split at h
  · dsimp only at h
    split at h
    · split at h <;> cases h
    · cases h
    · cases h
  · cases h
  · cases h
theorem noRt_seq {f g : Sx} (hf : NoRt f) (hg : NoRt g) : NoRt (sSeq f g) := fun env s d s' h => by
  unfold sSeq at h
  split at h
  · exact hg _ _ _ _ h
  · exact hf _ _ _ _ h
theorem noRt_fn {n : Nat} {f : Sx} (hf : NoRt f) : ∀ ds s d s', fnOf n f ds s = .ok d s' → d = .non := fun ds s d s' h => by
  unfold fnOf at h
  split at h
  · rename_i e
    exact absurd e (hf _ _ _ _)
  · cases h; rfl
  · cases h
  · cases h
theorem _root_.L2.Room.u65 {k : Nat} {A : Around} (r : L2.Room k A) : A.units + 65 < cLine := by have := r.un; omega
theorem _root_.L2.Room.u1 {k : Nat} {A : Around} (r : L2.Room k A) : A.units + 1 < cLine := by have := r.un; omega
end Pd
namespace Pd
open PySem L2
/-! ### what a loop walks -/
structure ItS (Γ : Wd) (ρ0 : List Addr) (F0 : Hp) (T : It) (l : List Dt) (ok : Sto → Prop) : Prop where
  len : l.length ≤ sizeLine
  go : ∀ (i : Nat) ρ F s H, LD ρ0 F0 ρ F → G Γ ρ F s H → ok s → i < l.length → T.go i H
  stop : ∀ (i : Nat) ρ F s H, LD ρ0 F0 ρ F → G Γ ρ F s H → ok s → i = l.length → T.stop i H
  yld : ∀ (i : Nat) ρ F s H d x H', LD ρ0 F0 ρ F → G Γ ρ F s H → ok s → l[i]? = some d → T.yld i H x H' → ∃ F', LE ρ F H ρ F' H' ∧ G Γ ρ F' s H' ∧ Den Γ ρ F' d x
abbrev Is := En → Sto → Out (List Dt × (Sto → Prop))
def tI (Γ : Wd) (W : WX) (f : Is) : TI := fun σ H R => ∃ env ρ F s, G Γ ρ F s H ∧ Sl Γ ρ F env σ ∧ Po Γ (fun ρ F (a : List Dt × (Sto → Prop)) (T : It) => ItS Γ ρ F T a.1 a.2) ρ F H R (fun c H' => W c none σ H') (f env s)
abbrev IS (J : Cn) (X : Cx) (W : WX) (tg iter : Expr) (f : Is) : Prop := PI X tg iter (tI (wd J X) W f)
theorem PI.imp {X : Cx} {tg e : Expr} {t t' : TI} (h : PI X tg e t) (k : ∀ σ H R, t' σ H R → t σ H R) : PI X tg e t' := ⟨fun pins s σ H R I q => h.run pins s σ H R I (k σ H R q)⟩
theorem PI.or {X : Cx} {tg e : Expr} {t t' : TI} (h : PI X tg e t) (h' : PI X tg e t') : PI X tg e (fun σ H R => t σ H R ∨ t' σ H R) := ⟨fun pins s σ H R I q => by
  rcases q with q | q
  · exact h.run pins s σ H R I q
  · exact h'.run pins s σ H R I q⟩
def signs (x : Str) : List Dt := x.cps.toList.map fun c => .str ⟨#[c]⟩
/-- a list, a tuple, a text -/
def iSeq (f : Ex) : Is := fun env => bnd (f env) fun d s => match d with
  | .str x => .ok (signs x, fun _ => True) s
  | d => match asQ s d with
    | some l => .ok (l, fun s' => asQ s' d = some l) s
    | none => .bad
def iRange (f : Ex) : Is := fun env => bnd (f env) fun d s => match d with
  | .int n => if n ≤ 16777216 ∧ -(2 ^ 62) ≤ n then .ok ((List.range n.toNat).map fun (k : Nat) => .int k, fun _ => True) s else .bad
  | _ => .bad
def iRange2 (f g : Ex) : Is := fun env => bnd (f env) fun d => bnd (g env) fun e s => match d, e with
  | .int i, .int j => if (-(2 ^ 62) ≤ i ∧ i < 2 ^ 62 ∧ -(2 ^ 62) ≤ j ∧ j < 2 ^ 62) ∧ j - i ≤ 16777216 then .ok ((List.range (j - i).toNat).map fun (k : Nat) => .int (i + k), fun _ => True) s else .bad
  | _, _ => .bad
theorem its_range {Γ : Wd} {ρ : List Addr} {F : Hp} {lo : Int} {n : Nat} {l : List Dt} {ok : Sto → Prop} (hl : l = (List.range n).map fun (k : Nat) => .int (lo + k)) (hz : n ≤ sizeLine) : ItS Γ ρ F (Itr lo n) l ok where
  len := by rw [hl, List.length_map, List.length_range]; exact hz
  go := fun i _ _ _ _ _ _ _ h => by rw [hl, List.length_map, List.length_range] at h; exact h
  stop := fun i _ _ _ _ _ _ _ h => by rw [hl, List.length_map, List.length_range] at h; exact Nat.le_of_eq h.symm
  yld := fun i ρ F s H d x H' _ g _ hd y => by
    obtain ⟨e1, e2⟩ := y
    subst e1
    refine ⟨F, LE.refl, g, ?_⟩
    rw [hl, List.getElem?_map] at hd
    obtain ⟨k, e3, e4⟩ := Option.map_eq_some_iff.mp hd
    have e5 : i = k := by
      have := List.getElem?_eq_some_iff.mp e3
      obtain ⟨h1, h2⟩ := this
      simpa using h2
    subst e5; subst e4
    simp only [Den]
    exact e2
theorem its_str {Γ : Wd} {ρ : List Addr} {F : Hp} {x : Str} {ok : Sto → Prop} (hx : sok x = true) : ItS Γ ρ F (Its x) (signs x) ok where
  len := by unfold signs; rw [List.length_map]; exact (by simpa [Str.length] using sok_len hx)
  go := fun i _ _ _ _ _ _ _ h => by unfold signs at h; rw [List.length_map] at h; show i < x.cps.size; simpa using h
  stop := fun i _ _ _ _ _ _ _ h => by unfold signs at h; rw [List.length_map] at h; exact Nat.le_of_eq (by simpa using h.symm)
  yld := fun i ρ F s H d v H' _ g _ hd y => by
    obtain ⟨e1, c, e2, e3⟩ := y
    subst e1
    refine ⟨F, LE.refl, g, ?_⟩
    unfold signs at hd
    rw [List.getElem?_map] at hd
    obtain ⟨k, e4, e5⟩ := Option.map_eq_some_iff.mp hd
    have e6 : c = k := by
      have z : x.cps.toList[i]? = some c := by simpa using e2
      rw [z] at e4
      exact Option.some.inj e4
    subst e6; subst e5
    simp only [Den]
    exact ⟨e3, sok_sign hx (List.mem_of_getElem? e4)⟩
theorem its_list {Γ : Wd} {ρ : List Addr} {F : Hp} {d : Dt} {v : V} {a : Addr} {l : List Dt} (r : Den Γ ρ F d v) (e : v = .ref a) (hq : ∀ s : Sto, asQ s d = asL s d) (hz : l.length ≤ sizeLine) : ItS Γ ρ F (Itl Γ.K a) l (fun s => asQ s d = some l) where
  len := hz
  go := fun i ρ1 F1 s H ld g ok h => by
    obtain ⟨b, xs, e1, q, t, _⟩ := g.sqL (Den.monoD ld d v r) (by rw [← hq]; exact ok)
    rw [e] at e1; cases e1
    have hx : i < xs.length := by rw [← t.length]; exact h
    exact ⟨xs, xs[i], q, List.getElem?_eq_getElem hx⟩
  stop := fun i ρ1 F1 s H ld g ok h => by
    obtain ⟨b, xs, e1, q, t, _⟩ := g.sqL (Den.monoD ld d v r) (by rw [← hq]; exact ok)
    rw [e] at e1; cases e1
    exact ⟨xs, q, by rw [← t.length]; exact Nat.le_of_eq h.symm⟩
  yld := fun i ρ1 F1 s H d' x H' ld g ok hd y => by
    obtain ⟨b, xs, e1, q, t, _⟩ := g.sqL (Den.monoD ld d v r) (by rw [← hq]; exact ok)
    rw [e] at e1; cases e1
    obtain ⟨e2, hy⟩ := y
    subst e2
    obtain ⟨u, e3, ru⟩ := t.get hd
    rw [hy xs q] at e3
    cases e3
    exact ⟨F1, LE.refl, g, ru⟩
theorem its_tup {Γ : Wd} {ρ : List Addr} {F : Hp} {v : V} {a : Addr} {l : List Dt} {ok : Sto → Prop} (r : Den Γ ρ F (.tup l) v) (e : v = .ref a) (hz : l.length ≤ sizeLine) : ItS Γ ρ F (Itt Γ.K a) l ok where
  len := hz
  go := fun i ρ1 F1 s H ld g _ h => by
    obtain ⟨b, xs, e1, q, t, _⟩ := g.sqT (Den.monoD ld _ v r) (l := l) rfl
    rw [e] at e1; cases e1
    have hx : i < xs.length := by rw [← t.length]; exact h
    exact ⟨xs, xs[i], q, List.getElem?_eq_getElem hx⟩
  stop := fun i ρ1 F1 s H ld g _ h => by
    obtain ⟨b, xs, e1, q, t, _⟩ := g.sqT (Den.monoD ld _ v r) (l := l) rfl
    rw [e] at e1; cases e1
    exact ⟨xs, q, by rw [← t.length]; exact Nat.le_of_eq h.symm⟩
  yld := fun i ρ1 F1 s H d' x H' ld g _ hd y => by
    obtain ⟨b, xs, e1, q, t, _⟩ := g.sqT (Den.monoD ld _ v r) (l := l) rfl
    rw [e] at e1; cases e1
    obtain ⟨e2, hy⟩ := y
    subst e2
    obtain ⟨u, e3, ru⟩ := t.get hd
    rw [hy xs q] at e3
    cases e3
    exact ⟨F1, LE.refl, g, ru⟩
section
variable {J : Cn} {X : Cx} {W : WX} {a b c e e2 o tgt : Expr} {es : List Expr} {fa fb fc fe fo : Ex} {fs : List Ex} {ft fu : Tx} {pos p : Pos} {st : Stmt} {rest : List Stmt} {f1 f2 : Sx}
theorem is_seq (h : ES J X W e fe) : IS J X W tgt e (iSeq fe) :=
  PI.imp (PI.or (pi_list h) (PI.or (pi_tup h) (pi_str h))) fun σ H R ⟨env, ρ, F, s, g, l, k⟩ => by
    unfold iSeq at k
    have case_bad : fe env s = .bad → False := fun e => by unfold bnd at k; rw [e] at k; exact k
    cases ev : fe env s with
    | bad => exact (case_bad ev).elim
    | exc c s1 =>
      unfold bnd at k
      rw [ev] at k
      exact .inl ⟨env, ρ, F, s, g, l, by rw [ev]; exact k⟩
    | ok d s1 =>
      have k' := k
      unfold bnd at k'
      rw [ev] at k'
      have gen : (∀ s, asQ s d = asL s d) → ∀ l', asQ s1 d = some l' → Po (wd J X) (fun ρ F (a : List Dt × (Sto → Prop)) (T : It) => ItS (wd J X) ρ F T a.1 a.2) ρ F H R (fun c H' => W c none σ H') (.ok (l', fun s' => asQ s' d = some l') s1) → iList X.K (tE (wd J X) W fe) σ H R := fun hq l' hl kk =>
        ⟨env, ρ, F, s, g, l, by
          rw [ev]
          exact fun ρ1 F1 H1 v l1 g1 r1 => by
            obtain ⟨x, xs, e1, q, t, z⟩ := g1.sqL r1 (by rw [← hq]; exact hl)
            exact ⟨x, e1, ⟨xs, q⟩, kk ρ1 F1 H1 _ l1 g1 (its_list r1 e1 hq z)⟩⟩
      cases d with
      | str z =>
        refine .inr (.inr ⟨env, ρ, F, s, g, l, ?_⟩)
        rw [ev]
        exact fun ρ1 F1 H1 v l1 g1 r1 => by
          simp only [Den] at r1
          exact ⟨z, r1.1, k' ρ1 F1 H1 _ l1 g1 (its_str r1.2)⟩
      | tup l' =>
        refine .inr (.inl ⟨env, ρ, F, s, g, l, ?_⟩)
        rw [ev]
        exact fun ρ1 F1 H1 v l1 g1 r1 => by
          obtain ⟨x, xs, e1, q, t, z⟩ := g1.sqT r1 (l := l') rfl
          exact ⟨x, e1, ⟨xs, q⟩, k' ρ1 F1 H1 _ l1 g1 (its_tup r1 e1 z)⟩
      | lst l' => exact .inl (gen (fun _ => rfl) l' rfl k')
      | lsk l' => exact .inl (gen (fun _ => rfl) l' rfl k')
      | obj j =>
        simp only [] at k'
        cases eq : asQ s1 (.obj j) with
        | none => rw [eq] at k'; exact False.elim k'
        | some l' => rw [eq] at k'; exact .inl (gen (fun _ => rfl) l' eq k')
      | _ => exact False.elim k'
theorem is_range (hg : Gl X "range") (hm : X.mg "range" = none) (h : ES J X W e fe) (hs : starEach [e] X.env = [(false, eval e X.env)] := by rfl) : IS J X W tgt (.Call (.Name "range" p) [e] [] pos) (iRange fe) :=
  PI.imp (pi_range1 hg hm (pa_cons h pa_nil hs) hs) fun σ H R ⟨env, ρ, F, s, g, l, k⟩ => ⟨env, ρ, F, s, g, l, Po.bind k fun d s1 ρ1 F1 H1 v e1 l1 g1 r1 k1 => by
    cases d with
    | int n =>
      simp only [] at k1
      split at k1
      · rename_i hz
        simp only [Den] at r1
        exact ⟨n, by rw [r1], hz.2, by omega, k1 ρ1 F1 H1 _ LE.refl g1 (its_range (by simp) (by rw [sizeLine_eq]; omega))⟩
      · exact False.elim k1
    | _ => exact False.elim k1⟩
theorem is_range2 (hg : Gl X "range") (hm : X.mg "range" = none) (h : ES J X W a fa) (h' : ES J X W b fb) (hs : starEach [a, b] X.env = [(false, eval a X.env), (false, eval b X.env)] := by rfl) (hs2 : starEach [b] X.env = [(false, eval b X.env)] := by rfl) : IS J X W tgt (.Call (.Name "range" p) [a, b] [] pos) (iRange2 fa fb) := by
  have z1 : starEach (a :: [b]) X.env = (false, eval a X.env) :: starEach [b] X.env := by rw [hs2]; exact hs
  exact PI.imp (pi_range2 hg hm (pa_cons h (pa_cons h' pa_nil hs2) z1) hs hs2) fun σ H R ⟨env, ρ, F, s, g, l, k⟩ => ⟨env, ρ, F, s, g, l, Po.bind k fun d s1 ρ1 F1 H1 v e1 l1 g1 r1 k1 => ⟨env, ρ1, F1, s1, g1, l.mono l1, Po.bind k1 fun d2 s2 ρ2 F2 H2 v2 e2 l2 g2 r2 k2 => by
    cases d with
    | int i =>
      cases d2 with
      | int j =>
        simp only [] at k2
        split at k2
        · rename_i hz
          simp only [Den] at r1 r2
          exact ⟨i, j, by rw [r1, r2], hz.1, k2 ρ2 F2 H2 _ LE.refl g2 (its_range rfl (by rw [sizeLine_eq]; omega))⟩
        · exact False.elim k2
      | _ => exact False.elim k2
    | _ => exact False.elim k2⟩⟩
/-! ### for, while -/
open Classical in
noncomputable def forGo (tg : Tg) (body : Sx) (ok : Sto → Prop) : List Dt → Sx
  | [], env, s => if ok s then .fl (.nx env) s else .bad
  | d :: r, env, s => if ok s then match tg d env s with
      | some env1 => match body env1 s with
        | .fl (.nx e) s' => forGo tg body ok r e s'
        | .fl (.ct e) s' => forGo tg body ok r e s'
        | .fl (.bk e) s' => .fl (.nx e) s'
        | .fl (.rt d) s' => .fl (.rt d) s'
        | .exc c e s' => .exc c e s'
        | .bad => .bad
      | none => .bad
    else .bad
noncomputable def sFor (fi : Is) (tg : Tg) (body : Sx) : Sx := fun env => sBnd (fi env) env fun p => forGo tg body p.2 p.1 env
theorem ss_for {iter : Expr} {body : List Stmt} {fi : Is} {is : List Nat} {tg : Tg} (hp : PassesOwn (model X.prog X.w) X.A X.env X.xe) (hc : X.calm = true) (hi : IS J X W tgt iter fi) (hg : GS J X tgt is tg) (hb : SSs J X W body f1)
    (hs : ∀ x, foldedSetIterable iter X.env x = pure x := by intro _; rfl) : SS J X W (.For tgt iter body [] pos) (sFor fi tg f1) :=
  PS.imp (ps_for hp hc hi hg hb hs) fun D σ H ⟨env, ρ, F, s, g, l, k⟩ => ⟨env, ρ, F, s, g, l, FPo.bind k l fun q s1 ρ1 F1 H1 T e1 l1 g1 r1 k1 => by
    obtain ⟨its, ok⟩ := q
    refine ⟨fun i m σ H => i ≤ its.length ∧ m = its.length - i ∧ ∃ env ρ F s, LE ρ1 F1 H1 ρ F H ∧ G (wd J X) ρ F s H ∧ Sl (wd J X) ρ F env σ ∧ FPo (wd J X) W ρ F H D (forGo tg f1 ok (its.drop i) env s), ⟨_, Nat.zero_le _, rfl, env, ρ1, F1, s1, LE.refl, g1, l.mono l1, k1⟩, ?_⟩
    rintro i m σ2 H2 ⟨hi, em, env2, ρ2, F2, s2, l2, g2, sl2, k2⟩
    by_cases hlt : i < its.length
    · obtain ⟨d, hd⟩ : ∃ d, its[i]? = some d := ⟨its[i], List.getElem?_eq_getElem hlt⟩
      have hdr : its.drop i = d :: its.drop (i + 1) := by
        rw [List.drop_eq_getElem_cons hlt]
        congr 1
        have := List.getElem?_eq_some_iff.mp hd
        exact this.2
      rw [hdr] at k2
      simp only [forGo] at k2
      split at k2
      · rename_i hok
        cases et : tg d env2 s2 with
        | none => rw [et] at k2; exact False.elim k2
        | some env3 =>
          rw [et] at k2
          simp only [] at k2
          refine .inr ⟨r1.go i ρ2 F2 s2 H2 l2.ld g2 hok hlt, fun σ' H' => i + 1 ≤ its.length ∧ its.length - (i + 1) = its.length - (i + 1) ∧ ∃ env ρ F s, LE ρ1 F1 H1 ρ F H' ∧ G (wd J X) ρ F s H' ∧ Sl (wd J X) ρ F env σ' ∧ FPo (wd J X) W ρ F H' D (forGo tg f1 ok (its.drop (i + 1)) env s), fun σ' H' hN => ⟨its.length - (i + 1), by rw [em]; omega, hN⟩, fun x H' hy => ?_⟩
          obtain ⟨F3, l3, g3, rd⟩ := r1.yld i ρ2 F2 s2 H2 d x H' l2.ld g2 hok hd hy
          refine ⟨env2, ρ2, F3, s2, d, env3, g3, sl2.mono l3, rd, et, fun σ4 sl4 _ _ => ⟨env3, ρ2, F3, s2, g3, sl4, ?_⟩⟩
          have k3 := k2.le l3
          cases eb : f1 env3 s2 with
          | fl f s4 =>
            rw [eb] at k3
            cases f with
            | nx e4 => exact fun ρ5 F5 H5 σ5 l5 g5 sl5 => ⟨hlt, rfl, e4, ρ5, F5, s4, (l2.trans l3).trans l5, g5, sl5, k3.le l5⟩
            | ct e4 => exact fun ρ5 F5 H5 σ5 l5 g5 sl5 => ⟨hlt, rfl, e4, ρ5, F5, s4, (l2.trans l3).trans l5, g5, sl5, k3.le l5⟩
            | rt d4 => exact k3
            | bk e4 => exact k3
          | exc c4 e4 s4 => rw [eb] at k3; exact k3
          | bad => rw [eb] at k3; exact k3
      · exact False.elim k2
    · have hie : i = its.length := by omega
      have hdr : its.drop i = [] := List.drop_eq_nil_of_le (by omega)
      rw [hdr] at k2
      simp only [forGo] at k2
      split at k2
      · rename_i hok
        exact .inl ⟨r1.stop i ρ2 F2 s2 H2 l2.ld g2 hok hie, k2 ρ2 F2 H2 σ2 LE.refl g2 sl2⟩
      · exact False.elim k2⟩
def whGo (t : Tx) (body : Sx) : Nat → Sx
  | 0, _, _ => .bad
  | n + 1, env, s => sBnd (t env) env (fun c s1 => if c = true then (match body env s1 with
      | .fl (.nx e) s' => whGo t body n e s'
      | .fl (.ct e) s' => whGo t body n e s'
      | .fl (.bk e) s' => .fl (.nx e) s'
      | .fl (.rt d) s' => .fl (.rt d) s'
      | .exc c e s' => .exc c e s'
      | .bad => .bad) else .fl (.nx env) s1) s
theorem ss_while {body : List Stmt} (n : Nat) (hp : PassesOwn (model X.prog X.w) X.A X.env X.xe) (hc : TSo J X W c ft) (hb : SSs J X W body f1) : SS J X W (.While c body [] pos) (whGo ft f1 n) :=
  PS.imp (ps_while hp hc hb) fun D σ H ⟨env, ρ, F, s, g, l, k⟩ => by
    refine ⟨fun m σ H => ∃ env ρ F s, G (wd J X) ρ F s H ∧ Sl (wd J X) ρ F env σ ∧ FPo (wd J X) W ρ F H D (whGo ft f1 m env s), ⟨n, env, ρ, F, s, g, l, k⟩, ?_⟩
    rintro m σ2 H2 ⟨env2, ρ2, F2, s2, g2, sl2, k2⟩
    cases m with
    | zero => exact False.elim k2
    | succ m =>
      simp only [whGo] at k2
      refine ⟨env2, ρ2, F2, s2, g2, sl2, FPo.bind k2 sl2 fun cb s3 ρ3 F3 H3 bb e3 l3 g3 r3 k3 => ?_⟩
      subst r3
      cases cb with
      | false => exact k3 ρ3 F3 H3 σ2 LE.refl g3 (sl2.mono l3)
      | true =>
        refine ⟨fun σ' H' => ∃ env ρ F s, G (wd J X) ρ F s H' ∧ Sl (wd J X) ρ F env σ' ∧ FPo (wd J X) W ρ F H' D (whGo ft f1 m env s), fun σ' H' hN => ⟨m, Nat.lt_succ_self _, hN⟩, env2, ρ3, F3, s3, g3, sl2.mono l3, ?_⟩
        simp only [if_true] at k3
        cases eb : f1 env2 s3 with
        | fl f s4 =>
          rw [eb] at k3
          cases f with
          | nx e4 => exact fun ρ5 F5 H5 σ5 l5 g5 sl5 => ⟨e4, ρ5, F5, s4, g5, sl5, k3.le l5⟩
          | ct e4 => exact fun ρ5 F5 H5 σ5 l5 g5 sl5 => ⟨e4, ρ5, F5, s4, g5, sl5, k3.le l5⟩
          | rt d4 => exact k3
          | bk e4 => exact k3
        | exc c4 e4 s4 => rw [eb] at k3; exact k3
        | bad => rw [eb] at k3; exact k3
end
end Pd
namespace Pd
open PySem L2
/-! ### comprehensions -/
/-- one computation behind another that raises nothing -/
def bndN {α β : Type} (m : Sto → Out α) (k : α → Sto → Out β) (s : Sto) : Out β := match m s with
  | .ok a s' => k a s'
  | _ => .bad
theorem Po.bindN {α β γ δ : Type} {Γ : Wd} {R1 : List Addr → Hp → α → β → Prop} {R2 : List Addr → Hp → γ → δ → Prop} {ρ0 ρ : List Addr} {F0 H0 F H : Hp} {Q : δ → Hp → Prop} {Q1 : β → Hp → Prop} {E E' : Value → Hp → Prop} {m : Sto → Out α} {k : α → Sto → Out γ} {s : Sto}
    (h : Po Γ R2 ρ0 F0 H0 Q E (bndN m k s)) (hk : ∀ a s', m s = .ok a s' → Po Γ R2 ρ0 F0 H0 Q E (k a s') → ∀ ρ' F' H' v, LE ρ F H ρ' F' H' → G Γ ρ' F' s' H' → R1 ρ' F' a v → Q1 v H') : Po Γ R1 ρ F H Q1 E' (m s) := by
  unfold bndN at h
  cases e : m s with
  | ok a s' => rw [e] at h; exact hk a s' e h
  | exc c s' => rw [e] at h; exact False.elim h
  | bad => rw [e] at h; exact False.elim h
theorem LE.at_new {ρ ρ' : List Addr} {F H F' H' : Hp} (l : LE ρ F H ρ' F' H') {p : Addr} {o : HO} (hp : H p = none) : LE ρ F H ρ' F' (upd H' p o) where
  ld := l.ld
  fr := l.fr
  ff := l.ff
  keep := fun a u h n => by rw [upd_ne (ne_of_none h hp)]; exact l.keep a u h n
  there := fun a u h => by
    obtain ⟨w, q⟩ := l.there a u h
    exact ⟨w, by rw [upd_ne (ne_of_none h hp)]; exact q⟩
open Classical in
noncomputable def lcGo (tg : Tg) (ft : Tx) (fe : Ex) (ok : Sto → Prop) : List Dt → En → Sto → Out (List Dt)
  | [], _, s => if ok s then .ok [] s else .bad
  | d :: r, env, s => if ok s then match tg d env s with
      | some env1 => bndN (ft env1) (fun b s1 => if b = true then bndN (fe env1) (fun y => bndN (lcGo tg ft fe ok r env) fun ys s => .ok (y :: ys) s) s1 else lcGo tg ft fe ok r env s1) s
      | none => .bad
    else .bad
def wipeD (env : En) : List Nat → En
  | [] => env
  | v :: vs => (wipeD env vs).set v none
noncomputable def eLc (nw : List Dt → Sto → Out Dt) (vs : List Nat) (fi : Is) (tg : Tg) (ft : Tx) (fe : Ex) : Ex := fun env => bnd (fi env) fun p => bndN (lcGo tg ft fe p.2 p.1 (wipeD env vs)) nw
theorem Sl.wipe {Γ : Wd} {ρ : List Addr} {F : Hp} {env : En} {σ : St} (h : Sl Γ ρ F env σ) : ∀ vs : List Nat, Sl Γ ρ F (wipeD env vs) (L2.wipe σ vs)
  | [] => h
  | v :: vs => (Sl.wipe h vs).unset v
theorem wipe_in {τ : St} {j : Nat} : ∀ {vs : List Nat}, j ∈ vs → (L2.wipe τ vs)[j]? = if j < τ.length then some none else none
  | v :: vs, h => by
    show ((L2.wipe τ vs).set v none)[j]? = _
    by_cases e : v = j
    · subst e
      by_cases hl : v < τ.length
      · rw [if_pos hl, List.getElem?_set_self (by rw [wipe_length]; exact hl)]
      · rw [if_neg hl]
        exact List.getElem?_eq_none (by rw [List.length_set, wipe_length]; omega)
    · rw [List.getElem?_set_ne e]
      exact wipe_in (by
        rcases List.mem_cons.mp h with h | h
        · exact absurd h.symm e
        · exact h)
theorem wipe_same {σ σ2 : St} {is vs : List Nat} (hsub : ∀ i ∈ is, i ∈ vs) (hl : σ2.length = (L2.wipe σ vs).length) (h : ∀ j, j ∉ is → σ2[j]? = (L2.wipe σ vs)[j]?) : L2.wipe σ2 vs = L2.wipe σ vs := by
  apply List.ext_getElem?
  intro j
  by_cases hj : j ∈ vs
  · rw [wipe_in hj, wipe_in hj, hl, wipe_length]
  · rw [wipe_out hj]
    exact h j fun z => hj (hsub j z)
section
variable {J : Cn} {X : Cx} {W : WX} {a b c e e2 o tgt iter elt : Expr} {es ifs : List Expr} {fa fb fc fe fo : Ex} {fs : List Ex} {ft fu : Tx} {pos p : Pos} {st : Stmt} {rest : List Stmt} {f1 f2 : Sx} {fi : Is} {is : List Nat} {tg : Tg}
abbrev W0 : WX := fun _ _ _ _ => False
/-- what holds of the new list once it is whole -/
theorem lst_done {nw : List Dt → Sto → Out Dt} (n : IsNw nw) {Γ : Wd} {ρ0 ρ : List Addr} {F0 H0 F H : Hp} {s : Sto} {acc : List Dt} {xs : List V} {D : Addr} {Q : VK} {E : Value → Hp → Prop} (g : G Γ ρ F s H) (l : LE ρ0 F0 H0 ρ F H) (t : Dens Γ ρ F acc xs) (hz : acc.length ≤ sizeLine) (hD : H D = some (.lst xs)) (h0 : H0 D = none) (nr : D ∉ ρ) (nf : F D = none)
    (k : EPo Γ ρ0 F0 H0 Q E (nw acc s)) : Q (.ref D) H := by
  have eH : upd H D (.lst xs) = H := by
    funext x
    by_cases e : x = D
    · subst e; rw [upd_same, hD]
    · rw [upd_ne e]
  rcases n with n | n
  · subst n
    have ld : LD ρ F ρ (upd F D (.lst xs)) := LD.upd nf
    refine k ρ (upd F D (.lst xs)) H _ ⟨l.ld.trans ld, l.fr, fun a o h => ?_, l.keep, l.there⟩ ⟨fun a o h => ?_, g.len, g.nd, fun a h => ?_, fun i a mo h1 h2 => (g.at_ i a mo h1 h2).mono ld rfl⟩ ?_
    · by_cases e : a = D
      · subst e; exact .inr (.inl h0)
      · rw [upd_ne e] at h; exact l.ff a o h
    · by_cases e : a = D
      · subst e; rw [upd_same] at h; cases h; exact hD
      · rw [upd_ne e] at h; exact g.sub a o h
    · rw [upd_ne (fun z => nr (by rw [← z]; exact h))]; exact g.sep a h
    · simp only [Den]
      exact ⟨hz, D, xs, rfl, upd_same, Dens.monoD ld _ _ t⟩
  · subst n
    have ld : LD ρ F (ρ ++ [D]) F := LD.push
    refine k (ρ ++ [D]) F H _ ⟨l.ld.trans ld, fun a h => ?_, l.ff, l.keep, l.there⟩ ⟨g.sub, by simp [g.len], ?_, fun a h => ?_, fun i a m h1 h2 => ?_⟩ ?_
    · rcases List.mem_append.mp h with h | h
      · exact l.fr a h
      · rw [List.mem_singleton] at h; rw [h]; exact .inr h0
    · refine List.nodup_append.mpr ⟨g.nd, by simp, fun a ha b hb => ?_⟩
      rw [List.mem_singleton] at hb
      rw [hb]
      exact fun z => nr (by rw [← z]; exact ha)
    · rcases List.mem_append.mp h with h | h
      · exact g.sep a h
      · rw [List.mem_singleton] at h; rw [h]; exact .inl nf
    · by_cases hi : i < ρ.length
      · rw [List.getElem?_append_left hi] at h1
        rw [List.getElem?_append_left (by rw [← g.len]; exact hi)] at h2
        exact (g.at_ i a m h1 h2).mono ld rfl
      · rw [List.getElem?_append_right (by omega)] at h1
        rw [List.getElem?_append_right (by rw [← g.len]; omega)] at h2
        have e0 : i - ρ.length = 0 := by
          have := (List.getElem?_eq_some_iff.mp h1).1
          simp at this
          omega
        rw [e0] at h1
        rw [← g.len, e0] at h2
        cases h1
        cases h2
        exact ⟨hz, xs, hD, Dens.monoD ld _ _ t⟩
    · simp only [Den]
      exact ⟨D, rfl, by rw [← g.len, List.getElem?_append_right (Nat.le_refl _), Nat.sub_self]; rfl⟩
theorem lc_of {nw : List Dt → Sto → Out Dt} (n : IsNw nw) {vs : List Nat} (hsub : ∀ i ∈ is, i ∈ vs) {σ : St} {H : Hp} {Q : VK} (h : tE (wd J X) W (eLc nw vs fi tg ft fe) σ H Q) : tLc (tI (wd J X) W fi) (tG (wd J X) is tg) (tT (wd J X) W0 ft) (tE (wd J X) W0 fe) vs σ H Q := by
  obtain ⟨env, ρ, F, s, g, l, k⟩ := h
  refine ⟨env, ρ, F, s, g, l, Po.bind k fun q s1 ρ1 F1 H1 T e1 l1 g1 r1 k1 D hD => ?_⟩
  obtain ⟨its, ok⟩ := q
  have swl := (l.mono l1).wipe vs
  refine ⟨fun i m H => i ≤ its.length ∧ m = its.length - i ∧ ∃ ρ F s acc xs, LE ρ1 F1 H1 ρ F H ∧ G (wd J X) ρ F s H ∧ D ∉ ρ ∧ F D = none ∧ H D = some (.lst xs) ∧ Dens (wd J X) ρ F acc xs ∧ acc.length ≤ i ∧
      EPo (wd J X) ρ1 F1 H1 Q (fun c H' => W c none σ H') (bndN (lcGo tg ft fe ok (its.drop i) (wipeD env vs)) (fun ds => nw (acc ++ ds)) s), ?_, ?_⟩
  · refine ⟨its.length, Nat.zero_le _, rfl, ρ1, F1, s1, [], [], LE.skip hD, g1.skip _ hD, fun z => ?_, g1.fnone hD, upd_same, by simp only [Dens], Nat.le_refl _, k1⟩
    exact (g1.new_ne hD z) rfl
  · rintro i m H2 ⟨hi, em, ρ2, F2, s2, acc, xs, l2, g2, nr, nf, hDx, t, hac, k2⟩
    by_cases hlt : i < its.length
    · obtain ⟨d, hd⟩ : ∃ d, its[i]? = some d := ⟨its[i], List.getElem?_eq_getElem hlt⟩
      have hdr : its.drop i = d :: its.drop (i + 1) := by
        rw [List.drop_eq_getElem_cons hlt]
        congr 1
        exact (List.getElem?_eq_some_iff.mp hd).2
      rw [hdr] at k2
      have hok : ok s2 := by
        apply Classical.byContradiction
        intro hno
        simp only [bndN, lcGo, if_neg hno] at k2
        exact k2
      cases et : tg d (wipeD env vs) s2 with
      | none => simp only [bndN, lcGo, if_pos hok, et] at k2; exact False.elim k2
      | some env1 =>
        refine .inr ⟨r1.go i ρ2 F2 s2 H2 l2.ld g2 hok hlt, fun H' => i + 1 ≤ its.length ∧ its.length - (i + 1) = its.length - (i + 1) ∧ ∃ ρ F s acc xs, LE ρ1 F1 H1 ρ F H' ∧ G (wd J X) ρ F s H' ∧ D ∉ ρ ∧ F D = none ∧ H' D = some (.lst xs) ∧ Dens (wd J X) ρ F acc xs ∧ acc.length ≤ i + 1 ∧
          EPo (wd J X) ρ1 F1 H1 Q (fun c H' => W c none σ H') (bndN (lcGo tg ft fe ok (its.drop (i + 1)) (wipeD env vs)) (fun ds => nw (acc ++ ds)) s), fun H' hN => ⟨_, by rw [em]; omega, hN⟩, fun x H' hy => ?_⟩
        obtain ⟨F3, l3, g3, rd⟩ := r1.yld i ρ2 F2 s2 H2 d x H' l2.ld g2 hok hd hy
        have swl3 := (swl.mono l2).mono l3
        refine ⟨_, ρ2, F3, s2, d, env1, g3, swl3, rd, et, fun σ2 sl2 z1 z2 => ⟨wipe_same hsub z1 z2, env1, ρ2, F3, s2, g3, sl2, ?_⟩⟩
        -- the test
        have k3 : EPo (wd J X) ρ1 F1 H1 Q (fun c H' => W c none σ H') (bndN (ft env1) (fun b s1 => if b = true then bndN (fe env1) (fun y => bndN (lcGo tg ft fe ok (its.drop (i + 1)) (wipeD env vs)) fun ys => nw (acc ++ (y :: ys))) s1 else bndN (lcGo tg ft fe ok (its.drop (i + 1)) (wipeD env vs)) (fun ds => nw (acc ++ ds)) s1) s2) := by
          have e : bndN (lcGo tg ft fe ok (d :: its.drop (i + 1)) (wipeD env vs)) (fun ds => nw (acc ++ ds)) s2 = (bndN (ft env1) (fun b s1 => if b = true then bndN (fe env1) (fun y => bndN (lcGo tg ft fe ok (its.drop (i + 1)) (wipeD env vs)) fun ys => nw (acc ++ (y :: ys))) s1 else bndN (lcGo tg ft fe ok (its.drop (i + 1)) (wipeD env vs)) (fun ds => nw (acc ++ ds)) s1) s2) := by
            simp only [bndN, lcGo, if_pos hok, et]
            cases ft env1 s2 with
            | ok b s3 =>
              cases b with
              | true =>
                simp only [if_true]
                cases fe env1 s3 with
                | ok y s4 =>
                  simp only []
                  cases lcGo tg ft fe ok (its.drop (i + 1)) (wipeD env vs) s4 <;> rfl
                | _ => rfl
              | false => simp
            | _ => rfl
          rw [← e]; exact k2
        have nr3 : D ∉ ρ2 := nr
        have nf3 : F3 D = none := by
          cases e : F3 D with
          | none => rfl
          | some o =>
            rcases l3.ff D o e with ⟨u, z⟩ | z | ⟨_, _, z⟩
            · rw [nf] at z; cases z
            · rw [hDx] at z; cases z
            · rw [hDx] at z; cases z
        have hD3 : H' D = some (.lst xs) := l3.keep D _ hDx nr
        have stay : ∀ {ρ' : List Addr} {F' H3 : Hp}, LE ρ2 F3 H' ρ' F' H3 → D ∉ ρ' ∧ F' D = none ∧ H3 D = some (.lst xs) := fun {ρ' F' H3} l => by
          refine ⟨fun z => ?_, ?_, l.keep D _ hD3 nr3⟩
          · rcases l.fr D z with z | z
            · exact nr3 z
            · rw [hD3] at z; cases z
          · cases e : F' D with
            | none => rfl
            | some o =>
              rcases l.ff D o e with ⟨u, z⟩ | z | ⟨_, _, z⟩
              · rw [nf3] at z; cases z
              · rw [hD3] at z; cases z
              · rw [hD3] at z; cases z
        refine Po.bindN k3 fun b s3 eb k4 ρ4 F4 H4 b' l4 g4 r4 => ?_
        subst r4
        cases b with
        | false =>
          simp only [Bool.false_eq_true, if_false] at k4
          obtain ⟨w1, w2, w3⟩ := stay l4
          rw [if_neg Bool.false_ne_true]
          exact ⟨hlt, rfl, ρ4, F4, s3, acc, xs, (l2.trans l3).trans l4, g4, w1, w2, w3, Dens.mono (l3.trans l4) _ _ t, Nat.le_succ_of_le hac, k4⟩
        | true =>
          simp only [if_true] at k4
          rw [if_pos rfl]
          refine ⟨env1, ρ4, F4, s3, g4, sl2.mono l4, Po.bindN k4 fun y s5 ey k5 ρ5 F5 H5 v l5 g5 r5 => ?_⟩
          obtain ⟨w1, w2, w3⟩ := stay (l4.trans l5)
          refine ⟨xs, w3, ?_, hlt, rfl, ρ5, F5, s5, acc ++ [y], xs ++ [v], ((l2.trans l3).trans (l4.trans l5)).at_new hD, g5.other _ w1 w2, w1, w2, upd_same, Dens.append (Dens.mono (l3.trans (l4.trans l5)) _ _ t) (Dens.one r5), by rw [List.length_append]; simpa using hac, ?_⟩
          · rw [← t.length]
            exact Nat.lt_of_le_of_lt hac (Nat.lt_of_lt_of_le hlt r1.len)
          · have e : (fun ds => nw (acc ++ [y] ++ ds)) = fun ys => nw (acc ++ (y :: ys)) := by funext ys; rw [List.append_assoc]; rfl
            rw [e]
            exact k5
    · have hie : i = its.length := by omega
      have hdr : its.drop i = [] := List.drop_eq_nil_of_le (by omega)
      rw [hdr] at k2
      have hok : ok s2 := by
        apply Classical.byContradiction
        intro hno
        simp only [bndN, lcGo, if_neg hno] at k2
        exact k2
      simp only [bndN, lcGo, if_pos hok, List.append_nil] at k2
      exact .inl ⟨r1.stop i ρ2 F2 s2 H2 l2.ld g2 hok hie, lst_done n g2 l2 t (Nat.le_trans hac (by rw [hie]; exact r1.len)) hDx hD nr nf k2⟩
theorem es_lc {nw : List Dt → Sto → Out Dt} (n : IsNw nw) {scope : Scope} {own : List (Str × Nat)} (hc : X.calm = true) (hN : X.N.Nodup) (hi : IS J X W tgt iter fi) (ok : BlkOk X.N X.env.scope scope own) (hsub : ∀ i ∈ is, i ∈ own.map (·.2))
    (hg : ∀ (s : Shared) (H : Hp) (C : Addr) (cl : List (Str × Addr)) (fp : List Addr), GS J (X.blk s H scope (compEnvC scope cl C X.env) fp) tgt is tg) (ht : ∀ (s : Shared) (H : Hp) (C : Addr) (cl : List (Str × Addr)) (fp : List Addr), PTs (X.blk s H scope (compEnvC scope cl C X.env) fp) ifs (tT (wd J X) W0 ft))
    (he : ∀ (s : Shared) (H : Hp) (C : Addr) (cl : List (Str × Addr)) (fp : List Addr), ES J (X.blk s H scope (compEnvC scope cl C X.env) fp) W0 elt fe) (hs : ∀ x, foldedSetIterable iter X.env x = pure x := by intro _; rfl) :
    ES J X W (.ListComp elt [⟨tgt, iter, ifs, 0⟩] scope pos) (eLc nw (own.map (·.2)) fi tg ft fe) :=
  PE.imp (pe_lc hc hN hi ok hg ht he hs) fun σ H Q h => lc_of n hsub h
theorem ss_setLc {nw : List Dt → Sto → Out Dt} (n : IsNw nw) {i : Nat} {y : Str} {py spos : Pos} {scope : Scope} {own : List (Str × Nat)} (hc : X.calm = true) (hN : X.N.Nodup) (hy : X.N[i]? = some y) (hyl : X.env.scope.names.lookup y = some .local)
    (hsw : swapsWith (.ListComp elt [⟨tgt, iter, ifs, 0⟩] scope pos) (some (.Name y py)) spos.line X.env = pure true) (hi : IS J X W tgt iter fi) (ok : BlkOk X.N X.env.scope scope own) (hsub : ∀ i ∈ is, i ∈ own.map (·.2))
    (hg : ∀ (s : Shared) (H : Hp) (C : Addr) (cl : List (Str × Addr)) (fp : List Addr), GS J (X.blk s H scope (compEnvC scope cl C X.env) fp) tgt is tg) (ht : ∀ (s : Shared) (H : Hp) (C : Addr) (cl : List (Str × Addr)) (fp : List Addr), PTs (X.blk s H scope (compEnvC scope cl C X.env) fp) ifs (tT (wd J X) W0 ft))
    (he : ∀ (s : Shared) (H : Hp) (C : Addr) (cl : List (Str × Addr)) (fp : List Addr), ES J (X.blk s H scope (compEnvC scope cl C X.env) fp) W0 elt fe) (hs : ∀ x, foldedSetIterable iter X.env x = pure x := by intro _; rfl) :
    SS J X W (.Assign [.Name y py] (.ListComp elt [⟨tgt, iter, ifs, 0⟩] scope pos) spos) (sAsg (eLc nw (own.map (·.2)) fi tg ft fe) (gN i)) :=
  PS.imp (ps_setLc hc hN hy hyl hsw hi ok hg ht he hs) fun D σ H ⟨env, ρ, F, s, g, l, k⟩ => lc_of (W := W) n hsub ⟨env, ρ, F, s, g, l, FPo.bind k l fun d s1 ρ1 F1 H1 v e1 l1 g1 r1 k1 => k1 ρ1 F1 H1 _ LE.refl g1 ((l.mono l1).set r1 i)⟩
def tYes : Tx := fun _ s => .ok true s
theorem PTs.imp {X : Cx} {e : List Expr} {t t' : TT} (h : PTs X e t) (k : ∀ σ H Q, t' σ H Q → t σ H Q) : PTs X e t' := ⟨fun pins s σ H Q I q => h.run pins s σ H Q I (k σ H Q q)⟩
theorem tts_nil : PTs X [] (tT (wd J X) W Pd.tYes) := PTs.imp pts_nil fun σ H Q ⟨env, ρ, F, s, g, l, k⟩ => k ρ F H true LE.refl g rfl
theorem tts_one (h : TSo J X W c ft) : PTs X [c] (tT (wd J X) W ft) := pts_one h
end
end Pd
namespace Pd
open PySem L2
/-- a list that is tracked -/
def trkL (s : Sto) : Dt → Option (List Dt)
  | .lst l => some l
  | .obj i => match s[i]? with
    | some (.lst l) => some l
    | _ => none
  | _ => none
/-- a list of the store -/
def lstAt (s : Sto) : Dt → Option (Nat × List Dt)
  | .obj i => match s[i]? with
    | some (.lst l) => some (i, l)
    | _ => none
  | _ => none
section
variable {Γ : Wd} {ρ : List Addr} {F H : Hp} {s : Sto}
theorem G.trk (g : G Γ ρ F s H) {d : Dt} {v : V} {l : List Dt} (r : Den Γ ρ F d v) (h : trkL s d = some l) : ∃ a xs, v = .ref a ∧ H a = some (.lst xs) ∧ Dens Γ ρ F l xs ∧ l.length ≤ sizeLine := by
  cases d with
  | lst l' =>
    simp only [Den] at r
    simp only [trkL, Option.some.injEq] at h
    subst h
    obtain ⟨z, a, xs, e, q, t⟩ := r
    exact ⟨a, xs, e, g.sub _ _ q, t, z⟩
  | obj i =>
    simp only [Den] at r
    obtain ⟨a, e, q⟩ := r
    simp only [trkL] at h
    split at h
    · rename_i l' hs
      cases h
      obtain ⟨z, xs, ha, t⟩ := g.at_ i a _ q hs
      exact ⟨a, xs, e, ha, t, z⟩
    · cases h
  | _ => simp [trkL] at h
theorem G.lat (g : G Γ ρ F s H) {d : Dt} {v : V} {i : Nat} {l : List Dt} (r : Den Γ ρ F d v) (h : lstAt s d = some (i, l)) : ∃ a xs, v = .ref a ∧ ρ[i]? = some a ∧ H a = some (.lst xs) ∧ Dens Γ ρ F l xs ∧ l.length ≤ sizeLine := by
  cases d with
  | obj j =>
    simp only [Den] at r
    obtain ⟨a, e, q⟩ := r
    simp only [lstAt] at h
    split at h
    · rename_i l' hs
      cases h
      obtain ⟨z, xs, ha, t⟩ := g.at_ _ a _ q hs
      exact ⟨a, xs, e, q, ha, t, z⟩
    · cases h
  | _ => simp [lstAt] at h
/-- a list of the store is written -/
theorem G.setL (g : G Γ ρ F s H) {i : Nat} {a : Addr} {l : List Dt} {xs : List V} {ys : List V} (hi : ρ[i]? = some a) (q : H a = some (.lst ys)) (t : Dens Γ ρ F l xs) (z : l.length ≤ sizeLine) : G Γ ρ F (s.set i (.lst l)) (upd H a (.lst xs)) := g.put hi (fun od u e => by rw [q] at e; cases e) ⟨z, xs, upd_same, t⟩
end
/-! ### a + b -/
def dAdd (nw : List Dt → Sto → Out Dt) (x y : Dt) (s : Sto) : Out Dt := match x with
  | .int i => match y with
    | .int j => .ok (.int (i + j)) s
    | _ => .bad
  | .str i => match y with
    | .str j => if i.length + j.length ≤ 1000000 then .ok (.str (i ++ j)) s else .bad
    | _ => .bad
  | .tup l => match y with
    | .tup m => if l.length + m.length ≤ sizeLine then .ok (.tup (l ++ m)) s else .bad
    | _ => .bad
  | x => match trkL s x with
    | some l => match trkL s y with
      | some m => if l.length + m.length ≤ sizeLine then nw (l ++ m) s else .bad
      | none => .bad
    | none => .bad
theorem sok_app {i j : Str} (hi : sok i = true) (hj : sok j = true) (h : i.length + j.length ≤ 1000000) : sok (i ++ j) = true := by
  have e : (i ++ j).cps.toList = i.cps.toList ++ j.cps.toList := TL.tl_append i j
  refine sok_of (fun c hc => ?_) ?_
  · rw [e] at hc
    rcases List.mem_append.mp hc with hc | hc
    · exact sok_mem hi hc
    · exact sok_mem hj hc
  · have : (i ++ j).length = i.length + j.length := by
      show (i ++ j).cps.size = i.cps.size + j.cps.size
      rw [← Array.length_toList, e, List.length_append, Array.length_toList, Array.length_toList]
    omega
def rAddAll (K : PySem.W.Frag) : R2 := fun x y H Q => rI0 (fun i j => .int (i + j)) x y H Q ∨ ((∃ i j, x = .str i ∧ y = .str j ∧ i.length + j.length ≤ sizeLine ∧ Q (.str (i ++ j)) H) ∨ (rCatA K x y H Q ∨ rCat x y H Q))
theorem dAdd_ok {Γ : Wd} {nw : List Dt → Sto → Out Dt} (n : IsNw nw) : OpS Γ (rAddAll Γ.K) (dAdd nw) := by
  intro ρ F s H x y dx dy Q E g rx ry k
  have gen : ∀ l, trkL s dx = some l → (∀ m, trkL s dy = some m → l.length + m.length ≤ sizeLine → EPo Γ ρ F H Q E (nw (l ++ m) s) → rCat x y H Q) := fun l hl m hm hz k => by
    obtain ⟨a, xs, e1, q1, t1, _⟩ := g.trk rx hl
    obtain ⟨b, ys, e2, q2, t2, _⟩ := g.trk ry hm
    exact ⟨a, b, xs, ys, e1, e2, q1, q2, by rw [← t1.length, ← t2.length]; exact hz, fun p hp => new_lst n g (Dens.append t1 t2) (by rw [List.length_append]; exact hz) hp k⟩
  cases dx with
  | int i =>
    cases dy with
    | int j =>
      simp only [Den] at rx ry
      exact .inl ⟨i, j, rx, ry, k ρ F H _ LE.refl g (by simp only [Den])⟩
    | _ => exact False.elim k
  | str i =>
    cases dy with
    | str j =>
      simp only [Den] at rx ry
      simp only [dAdd] at k
      split at k
      · rename_i h
        refine .inr (.inl ⟨i, j, rx.1, ry.1, by rw [sizeLine_eq]; omega, k ρ F H _ LE.refl g ?_⟩)
        simp only [Den]
        exact ⟨trivial, sok_app rx.2 ry.2 h⟩
      · exact False.elim k
    | _ => exact False.elim k
  | tup l =>
    cases dy with
    | tup m =>
      simp only [dAdd] at k
      split at k
      · rename_i h
        obtain ⟨a, xs, e1, q1, t1, z1⟩ := g.sqT rx (l := l) rfl
        obtain ⟨b, ys, e2, q2, t2, z2⟩ := g.sqT ry (l := m) rfl
        refine .inr (.inr (.inl ⟨a, b, xs, ys, e1, e2, q1, q2, by rw [← t1.length, ← t2.length]; exact h, fun hx => ?_, fun hx hy => ?_, fun hx hy p hp => ?_⟩))
        · have el : l = [] := by
            have := t1.length
            rw [hx] at this
            exact List.length_eq_zero_iff.mp (by simpa using this)
          subst el
          rw [List.nil_append] at k
          have := k ρ F H y LE.refl g ry
          rw [e2] at this
          exact this
        · have em : m = [] := by
            have := t2.length
            rw [hy] at this
            exact List.length_eq_zero_iff.mp (by simpa using this)
          subst em
          rw [List.append_nil] at k
          have := k ρ F H x LE.refl g rx
          rw [e1] at this
          exact this
        · exact new_tup g (Dens.append t1 t2) (by rw [List.length_append]; exact h) hp k
      · exact False.elim k
    | _ => exact False.elim k
  | lst l =>
    simp only [dAdd, trkL] at k
    cases e : trkL s dy with
    | none => simp only [trkL] at e; rw [e] at k; exact False.elim k
    | some m =>
      simp only [trkL] at e
      rw [e] at k
      simp only [] at k
      split at k
      · rename_i h
        exact .inr (.inr (.inr (gen l rfl m e h k)))
      · exact False.elim k
  | obj i =>
    simp only [dAdd] at k
    cases e1 : trkL s (.obj i) with
    | none => rw [e1] at k; exact False.elim k
    | some l =>
      rw [e1] at k
      simp only [] at k
      cases e : trkL s dy with
      | none => rw [e] at k; exact False.elim k
      | some m =>
        rw [e] at k
        simp only [] at k
        split at k
        · rename_i h
          exact .inr (.inr (.inr (gen l e1 m e h k)))
        · exact False.elim k
  | _ => exact False.elim k
section
variable {J : Cn} {X : Cx} {W : WX} {a b c e e2 o tgt iter elt : Expr} {es ifs : List Expr} {fa fb fc fe fo : Ex} {fs : List Ex} {ft fu : Tx} {pos p apos cpos : Pos} {st : Stmt} {rest : List Stmt} {f1 f2 : Sx}
theorem es_add {nw : List Dt → Sto → Out Dt} (n : IsNw nw) (ha : ES J X W a fa) (hb : ES J X W b fb) : ES J X W (.BinOp a .Add b pos) (eOp (dAdd nw) fa fb) :=
  es_op (OpR.or op_add (OpR.or op_add_str (OpR.or op_catA op_cat))) (dAdd_ok n) ha hb
/-! ### methods of built-ins -/
def isLst (s : Sto) (d : Dt) : Bool := (asL s d).isSome
def isStr (_ : Sto) (d : Dt) : Bool := match d with
  | .str _ => true
  | _ => false
def TyS (Γ : Wd) (T : String) (ty : Sto → Dt → Bool) : Prop := ∀ ρ F s H x d, G Γ ρ F s H → Den Γ ρ F d x → ty s d = true → tyV Γ.K T x H
theorem ty_lst {Γ : Wd} : TyS Γ "list" isLst := by
  intro ρ F s H x d g r h
  unfold isLst at h
  obtain ⟨l, e⟩ := Option.isSome_iff_exists.mp h
  obtain ⟨a, xs, e1, q, _⟩ := g.sqL r e
  subst e1
  exact .inl ⟨rfl, xs, q⟩
theorem ty_str {Γ : Wd} : TyS Γ "str" isStr := by
  intro ρ F s H x d g r h
  cases d with
  | str z => simp only [Den] at r; obtain ⟨r, _⟩ := r; subst r; exact rfl
  | _ => exact Bool.noConfusion h
def M0S (Γ : Wd) (r : V → List V → Hp → VK → Prop) (op : Dt → Sto → Out Dt) : Prop := ∀ ρ F s H x dx Q E, G Γ ρ F s H → Den Γ ρ F dx x → EPo Γ ρ F H Q E (op dx s) → r x [] H Q
def M1S (Γ : Wd) (r : V → List V → Hp → VK → Prop) (op : Dt → Dt → Sto → Out Dt) : Prop := ∀ ρ F s H x y dx dy Q E, G Γ ρ F s H → Den Γ ρ F dx x → Den Γ ρ F dy y → EPo Γ ρ F H Q E (op dx dy s) → r x [y] H Q
/-- a method of a built-in, with one argument -/
def Bm1 (J : Cn) (X : Cx) (T : String) (name : Str) (ty : Sto → Dt → Bool) (op : Dt → Dt → Sto → Out Dt) : Prop := ∃ id r, PlainAttrs T ∧ Slot T name id ∧ typeOf (.builtin id) = pure (.type "method_descriptor") ∧ MtR X id r ∧ TyS (wd J X) T ty ∧ M1S (wd J X) r op
def eBm1 (ty : Sto → Dt → Bool) (op : Dt → Dt → Sto → Out Dt) (fo fe : Ex) : Ex := fun env => bnd (fo env) fun x s => if ty s x = true then bnd (fe env) (fun y => op x y) s else .bad
theorem es_bm1 {T : String} {name : Str} {ty : Sto → Dt → Bool} {op : Dt → Dt → Sto → Out Dt} (B : Bm1 J X T name ty op) (ho : ES J X W o fo) (he : ES J X W e fe)
    (hs : starEach (e :: []) X.env = (false, eval e X.env) :: starEach [] X.env := by rfl) (hbase : attributeBase o name X.env (eval o X.env) = eval o X.env := by rfl)
    (hfew : ((backTo cpos (starEach [e] X.env)).all (fun x => !x.1) && (backToKw cpos (keywordEach [] X.env)).all (fun x => x.1.isSome)
      && decide (([e] : List Expr).length + ([] : List Keyword).length + (if ([] : List Keyword).isEmpty then 0 else 1) < 30)) = true := by rfl)
    (hline : (apos.endLine == cpos.line) = true := by rfl) : ES J X W (.Call (.Attribute o name apos) [e] [] cpos) (eBm1 ty op fo fe) := by
  obtain ⟨id, r, pa, slot, hty, hm, tyS, opS⟩ := B
  exact PE.imp (pe_bm pa slot hty hm ho (pa_cons he pa_nil hs) hbase hfew hline hs rfl) fun σ H Q ⟨env, ρ, F, s, g, l, k⟩ => ⟨env, ρ, F, s, g, l, Po.bind k fun x s1 ρ1 F1 H1 v e1 l1 g1 r1 k1 => by
    split at k1
    · rename_i ht
      exact ⟨tyS ρ1 F1 s1 H1 v x g1 r1 ht, env, ρ1, F1, s1, g1, l.mono l1, Po.bind k1 fun y s2 ρ2 F2 H2 u e2 l2 g2 r2 k2 => opS ρ2 F2 s2 H2 v u x y Q _ g2 (Den.mono l2 _ _ r1) r2 k2⟩
    · exact False.elim k1⟩
def dApp (x y : Dt) (s : Sto) : Out Dt := match lstAt s x with
  | some (i, l) => if l.length < sizeLine then .ok .non (s.set i (.lst (l ++ [y]))) else .bad
  | none => .bad
theorem m_append : Bm1 J X "list" "append" isLst dApp := ⟨_, _, PySem.F.plainAttrs_list, PySem.F.slot_list_append, PySem.F.type_list_append, mt_append, ty_lst, fun ρ F s H x y dx dy Q E g rx ry k => by
  unfold dApp at k
  split at k
  · rename_i i l hl
    split at k
    · rename_i hz
      obtain ⟨a, xs, e1, hi, q, t, _⟩ := g.lat rx hl
      refine ⟨a, xs, y, e1, rfl, q, by rw [← t.length]; exact hz, k ρ F _ _ (LE.put (List.mem_of_getElem? hi)) (g.setL hi q (Dens.append t (Dens.one ry)) (by rw [List.length_append]; exact hz)) (by simp only [Den])⟩
    · exact False.elim k
  · exact False.elim k⟩
def dExt (x y : Dt) (s : Sto) : Out Dt := match lstAt s x with
  | some (i, l) => match trkL s y with
    | some m => if l.length + m.length ≤ sizeLine then .ok .non (s.set i (.lst (l ++ m))) else .bad
    | none => .bad
  | none => .bad
theorem m_extend : Bm1 J X "list" "extend" isLst dExt := ⟨_, _, PySem.F.plainAttrs_list, PySem.F.slot_list_extend, PySem.F.type_list_extend, mt_extend, ty_lst, fun ρ F s H x y dx dy Q E g rx ry k => by
  unfold dExt at k
  split at k
  · rename_i i l hl
    split at k
    · rename_i m hm
      split at k
      · rename_i hz
        obtain ⟨a, xs, e1, hi, q, t, _⟩ := g.lat rx hl
        obtain ⟨b, ys, e2, q2, t2, _⟩ := g.trk ry hm
        refine ⟨a, b, xs, ys, e1, by rw [e2], q, q2, by rw [← t.length, ← t2.length]; exact hz, k ρ F _ _ (LE.put (List.mem_of_getElem? hi)) (g.setL hi q (Dens.append t t2) (by rw [List.length_append]; exact hz)) (by simp only [Den])⟩
      · exact False.elim k
    · exact False.elim k
  · exact False.elim k⟩
/-- xs.pop(k) -/
def dPopAt (x y : Dt) (s : Sto) : Out Dt := match y with
  | .int k => match lstAt s x with
    | some (i, l) => match ixN l.length k with
      | some j => match l[j]? with
        | some d => .ok d (s.set i (.lst (l.eraseIdx j)))
        | none => .bad
      | none => .bad
    | none => .bad
  | _ => .bad
theorem m_popAt : Bm1 J X "list" "pop" isLst dPopAt := ⟨_, _, PySem.F.plainAttrs_list, PySem.F.slot_list_pop, PySem.F.type_list_pop, mt_popAt, ty_lst, fun ρ F s H x y dx dy Q E g rx ry k => by
  cases dy with
  | int n =>
    simp only [Den] at ry
    simp only [dPopAt] at k
    split at k
    · rename_i i l hl
      split at k
      · rename_i j hj
        split at k
        · rename_i d hd
          obtain ⟨a, xs, e1, hi, q, t, z⟩ := g.lat rx hl
          obtain ⟨v, hv, rv⟩ := t.get hd
          obtain ⟨s1, s2, s3, s4⟩ := ixN_seq hj
          have hlen : (l.length : Int) ≤ 16777216 := by rw [sizeLine_eq] at z; omega
          refine ⟨a, xs, n, j, v, e1, by rw [ry], q, by omega, by omega, by rw [← t.length]; exact s1, hv, k ρ F _ _ (LE.put (List.mem_of_getElem? hi)) (g.setL hi q (t.eraseIdx j) (Nat.le_trans (len_erase _ _) z)) rv⟩
        · exact False.elim k
      · exact False.elim k
    · exact False.elim k
  | _ => exact False.elim k⟩
/-- ints alone -/
def asI : List Dt → Option (List Int)
  | [] => some []
  | .int b :: r => (asI r).map (b :: ·)
  | _ => none
theorem asI_map : ∀ {l : List Dt} {ns : List Int}, asI l = some ns → l = ns.map Dt.int
  | [], ns, h => by simp only [asI, Option.some.injEq] at h; subst h; rfl
  | d :: l, ns, h => by
    cases d with
    | int i =>
      simp only [asI, Option.map_eq_some_iff] at h
      obtain ⟨r, e1, e2⟩ := h
      subst e2
      rw [asI_map e1]; rfl
    | _ => simp [asI] at h
theorem Dens.ints {Γ : Wd} {ρ : List Addr} {F : Hp} : ∀ {ns : List Int} {xs : List V}, Dens Γ ρ F (ns.map Dt.int) xs → xs = ns.map V.int
  | [], xs, h => by simp only [List.map_nil, Dens] at h; exact h
  | n :: ns, xs, h => by
    simp only [List.map_cons, Dens] at h
    obtain ⟨v, r, e1, q, t⟩ := h
    simp only [Den] at q
    rw [e1, q, Dens.ints t]; rfl
theorem densI {Γ : Wd} {ρ : List Addr} {F : Hp} : ∀ (ns : List Int), Dens Γ ρ F (ns.map Dt.int) (ns.map V.int)
  | [] => by simp only [List.map_nil, Dens]
  | n :: ns => by
    simp only [List.map_cons, Dens]
    exact ⟨_, _, rfl, by simp only [Den], densI ns⟩
/-- xs.remove(n), whole numbers, it is there -/
def dRem (x y : Dt) (s : Sto) : Out Dt := match y with
  | .int k => match lstAt s x with
    | some (i, l) => match asI l with
      | some ns => if k ∈ ns then .ok .non (s.set i (.lst ((ns.erase k).map .int))) else .bad
      | none => .bad
    | none => .bad
  | _ => .bad
theorem erase_ix {ns : List Int} {k : Int} (h : k ∈ ns) : ∃ j : Nat, ns[j]? = some k ∧ (∀ m : Nat, m < j → ns[m]? ≠ some k) ∧ ns.eraseIdx j = ns.erase k := by
  induction ns with
  | nil => simp at h
  | cons a r ih =>
    by_cases e : a = k
    · subst e
      exact ⟨0, rfl, fun m hm => absurd hm (Nat.not_lt_zero _), by simp⟩
    · have hr : k ∈ r := by
        rcases List.mem_cons.mp h with h | h
        · exact absurd h.symm e
        · exact h
      obtain ⟨j, h1, h2, h3⟩ := ih hr
      refine ⟨j + 1, by simpa using h1, fun m hm => ?_, ?_⟩
      · cases m with
        | zero => simpa using e
        | succ m => simpa using h2 m (by omega)
      · rw [List.eraseIdx_cons_succ, h3, List.erase_cons, if_neg (by simpa using e)]
theorem m_remove : Bm1 J X "list" "remove" isLst dRem := ⟨_, _, PySem.F.plainAttrs_list, PySem.F.slot_list_remove, PySem.F.type_list_remove, mt_remove, ty_lst, fun ρ F s H x y dx dy Q E g rx ry k => by
  cases dy with
  | int n =>
    simp only [Den] at ry
    simp only [dRem] at k
    split at k
    · rename_i i l hl
      split at k
      · rename_i ns hn
        split at k
        · rename_i hm
          obtain ⟨a, xs, e1, hi, q, t, z⟩ := g.lat rx hl
          have el := asI_map hn
          subst el
          have ex := t.ints
          subst ex
          obtain ⟨j, h1, h2, h3⟩ := erase_ix hm
          refine ⟨a, ns, n, j, e1, by rw [ry], q, h1, h2, ?_⟩
          rw [h3]
          exact k ρ F _ _ (LE.put (List.mem_of_getElem? hi)) (g.setL hi q (densI _) (by
            rw [List.length_map] at z ⊢
            exact Nat.le_trans (List.length_erase_le) z)) (by simp only [Den])
        · exact False.elim k
      · exact False.elim k
    · exact False.elim k
  | _ => exact False.elim k⟩
/-! ### isinstance(x, T), T a built-in class -/
def tyN (s : Sto) : Dt → Option String
  | .non => some "NoneType"
  | .bl _ => some "bool"
  | .int _ => some "int"
  | .str _ => some "str"
  | .tup _ => some "tuple"
  | .lst _ => some "list"
  | .lsk _ => some "list"
  | .obj i => match s[i]? with
    | some (.lst _) => some "list"
    | some (.dic _) => some "dict"
    | some (.dit _) => some "dict"
    | some (.dicL _) => some "dict"
    | _ => none
  | .exc _ => none
theorem G.ty {Γ : Wd} {ρ : List Addr} {F H : Hp} {s : Sto} (g : G Γ ρ F s H) {d : Dt} {v : V} {T : String} (r : Den Γ ρ F d v) (h : tyN s d = some T) : TyX Γ.K H v (.type T) := by
  cases d with
  | non => simp only [Den] at r; simp only [tyN, Option.some.injEq] at h; subst r; subst h; exact .base .non
  | bl b => simp only [Den] at r; simp only [tyN, Option.some.injEq] at h; subst r; subst h; exact .base (.bl b)
  | int i => simp only [Den] at r; simp only [tyN, Option.some.injEq] at h; subst r; subst h; exact .base (.int i)
  | str x => simp only [Den] at r; simp only [tyN, Option.some.injEq] at h; obtain ⟨r, _⟩ := r; subst r; subst h; exact .base (.str x)
  | tup l =>
    simp only [Den] at r; simp only [tyN, Option.some.injEq] at h
    obtain ⟨z, a, xs, e, q, t⟩ := r
    subst e; subst h
    exact .base (.tup (g.sub _ _ q))
  | lst l =>
    simp only [Den] at r; simp only [tyN, Option.some.injEq] at h
    obtain ⟨z, a, xs, e, q, t⟩ := r
    subst e; subst h
    exact .base (.lst (g.sub _ _ q))
  | lsk l =>
    simp only [Den] at r; simp only [tyN, Option.some.injEq] at h
    obtain ⟨z, a, xs, e, q, t⟩ := r
    subst e; subst h
    rcases sqL_sub g.sub q with (q | ⟨o, q⟩) | ⟨o, its, n, hk, hc, _⟩
    · exact .base (.lst q)
    · exact .base (.frz q)
    · exact .kList hk hc
  | obj i =>
    simp only [Den] at r
    obtain ⟨a, e, q⟩ := r
    subst e
    simp only [tyN] at h
    split at h
    · rename_i l hs
      cases h
      obtain ⟨z, xs, hx, t⟩ := g.at_ i a _ q hs
      exact .base (.lst hx)
    · rename_i l hs
      cases h
      obtain ⟨z, xs, hx, t⟩ := g.at_ i a _ q hs
      exact .base (.dK hx)
    · rename_i l hs
      cases h
      obtain ⟨z, xs, hx, t⟩ := g.at_ i a _ q hs
      exact .base (.dT hx)
    · rename_i l hs
      cases h
      obtain ⟨z, od, xs, hx, t⟩ := g.at_ i a _ q hs
      exact .fDict hx.1
    · cases h
  | exc c => simp [tyN] at h
def dIsi (T : String) (d : Dt) (s : Sto) : Out Dt := ofO s ((tyN s d).map fun t => .bl (t == T || (t == "bool" && T == "int")))
/-- of these classes it is known whose heirs they are -/
def kitAll (T : String) : Bool := ["NoneType", "bool", "int", "str", "tuple", "list", "dict"].all fun t => kitB t T == some (t == T || (t == "bool" && T == "int"))
theorem tyN_in {s : Sto} {d : Dt} {t : String} (h : tyN s d = some t) : t ∈ ["NoneType", "bool", "int", "str", "tuple", "list", "dict"] := by
  cases d with
  | obj i =>
    simp only [tyN] at h
    split at h <;> first | (cases h; decide) | cases h
  | exc c => simp [tyN] at h
  | _ => simp only [tyN, Option.some.injEq] at h; subst h; decide
theorem es_isi {T : Str} {n : String} {p2 : Pos} (hk : kitAll n = true) (hg : Gl X "isinstance") (hm : X.mg "isinstance" = none) (hgT : Gl X T) (hmT : X.mg T = none) (hv : bootBuiltins T = some (.type n)) (ha : ES J X W e fe)
    (hn : T ≠ "__name__" := by decide) (hd : (T == ("__debug__" : Str)) = false := by decide)
    (he : starEach [e, .Name T p2] X.env = [(false, eval e X.env), (false, eval (.Name T p2) X.env)] := by rfl) : ES J X W (.Call (.Name "isinstance" p) [e, .Name T p2] [] pos) (eUn (dIsi n) fe) :=
  PE.imp (pe_callB call_isi hg hm (by decide +kernel) (pa_cons ha (pa_cons (pe_bltn (v := .ty n) hgT hmT hv rfl hn hd) pa_nil rfl) (by exact he)) (by decide) (by decide) (by exact he) rfl) fun σ H Q ⟨env, ρ, F, s, g, l, k⟩ => ⟨env, ρ, F, s, g, l, Po.bind k fun x s1 ρ1 F1 H1 v e1 l1 g1 r1 k1 => by
    obtain ⟨d, e3, k1⟩ := Po.ofO k1
    obtain ⟨t, e4, e5⟩ := Option.map_eq_some_iff.mp e3
    subst e5
    have hq := (List.all_eq_true.mp hk) t (tyN_in e4)
    refine ⟨v, .ty n, .type t, .type n, _, rfl, .ty n, g1.ty r1 e4, kit_ty (by simpa using hq), k1 ρ1 F1 H1 _ LE.refl g1 (by simp only [Den])⟩⟩
/-! ### raise X('..') -/
def sRaise (c : Nat) : Sx := fun env s => .exc c env s
theorem ss_raise {z : Bool} {c : Nat} {x m : Str} {C : Addr} {bmB : List Value} {B newId initId : String} {j : Nat} {p p2 pos pos' : Pos} (hJ : (J c).1 = x) (hc : X.calm = true) (tk : Tks z X W) (Fx : ExcBaseFacts B newId initId bmB) (q : PySem.W.excIn X.K C bmB newId = true) (gC : X.mg x = some (.ref C)) (kC : PySem.W.keepIn X.K (.ref C) = true) (r : Raises X (.ref C)) (hg : Gl X x)
    (hdb : (x == ("__debug__" : Str)) = false := by decide) : SS J X W (.Raise (some (.Call (.Name x p) [.Constant (.str m) j p2] [] pos)) none pos') (sRaise c) := by
  have k : ∀ D σ H, tS (wd J X) W (sRaise c) D σ H → W (.ref C) none σ H := fun D σ H ⟨env, ρ, F, s, g, l, k⟩ => k ρ F H σ C LE.refl g l (by show X.mg (J c).1 = _; rw [hJ]; exact gC)
  match z, tk with
  | true, tk => exact PS.imp (L2N.ps_raise hc tk (L2N.pmk_own Fx q gC kC r hg hdb)) k
  | false, tk => exact PS.imp (L2.ps_raise hc tk (L2.pmk_own Fx q gC kC r hg hdb)) k
end
end Pd
namespace Pd
open PySem L2
/-! ### a caught error that is kept -/
theorem exH_ok {P : Program} {w : World} {H : Hp} {h : Heap} {C a : Addr} {oe : Obj} {vs : Array Value} (e : h.get? a = some oe) (z : Zc (.ref C) none oe) (d : oe.data = .fields vs) : ObjOk P w H h a (ExH C a) :=
  ⟨⟨oe, vs, e, z, d⟩, ⟨oe, e⟩, fun _ _ ⟨o, v, q, r⟩ k => ⟨o, v, k o q, r⟩⟩
/-- an object of the body's own time comes to be tracked -/
theorem Inv.track {X : Cx} {pins : List (Addr × Obj)} {σ : St} {H : Hp} {s : Shared} {C a : Addr} {oe : Obj} {vs : Array Value} (I : Inv X pins σ H s) (he : s.heap.get? a = some oe) (hz : Zc (.ref C) none oe) (hd : oe.data = .fields vs) (na : H a = none)
    (n0 : X.s_0.heap.get? a = none) (nL : a ≠ X.env.locals) (np : ∀ p ∈ X.pn ++ pins, p.1 ≠ a) : Inv X pins σ (upd H a (ExH C a)) s where
  ok := I.ok
  os := I.os
  bare := I.bare
  base :=
    { keep := I.base.keep
      slot := I.base.slot
      free := fun b o q n x => by rw [upd_ne (fun z => by rw [z, n0] at q; cases q)]; exact I.base.free b o q n x
      there := I.base.there
      tups := fun b xs q => by have z := I.base.tups b xs q; rw [upd_ne (ne_of_none z na)]; exact z
      frzs := fun b o u q => by have z := I.base.frzs b o u q; rw [upd_ne (ne_of_none z na)]; exact z
      tbls := fun b ps q => by obtain ⟨m, z⟩ := I.base.tbls b ps q; exact ⟨m, by rw [upd_ne (ne_of_none z na)]; exact z⟩ }
  loc := I.loc
  cell := I.cell
  free := by rw [upd_ne (Ne.symm nL)]; exact I.free
  freeC := fun x c h => by
    obtain ⟨v, o, q1, q2⟩ := I.cell x c h
    rw [upd_ne (fun z => by
      rw [z, he] at q1
      cases q1
      rw [hd] at q2
      cases q2)]
    exact I.freeC x c h
  pin := fun p h => by
    obtain ⟨h1, h2, h3⟩ := I.pin p h
    exact ⟨h1, by rw [upd_ne (np p h)]; exact h2, h3⟩
  hok := fun b o q => by
    by_cases e : b = a
    · subst e
      rw [upd_same] at q
      cases q
      exact exH_ok he hz hd
    · rw [upd_ne e] at q
      exact (I.hok b o q).stay (fun _ _ _ z => z) (fun c z => by rw [upd_ne (ne_of_none z na)]; exact z) fun c xs z => by rw [upd_ne (ne_of_none z na)]; exact z
  len := I.len
/-- what is wanted of an error that a clause takes and whose object stays behind -/
def wKept (K : PySem.W.Frag) (c : Value) (i : Nat) (ts : Addr → Value → Option Addr → TS) (D : Ends) : WX := fun cls d σ H =>
  PySem.W.exmOne K cls c = some true ∧ ∃ C, cls = .ref C ∧ d = none ∧ ∀ a, H a = none → ts a cls d { nx := fun σ' H' => H' a = none → D.nx (σ'.set i none) (upd H' a (ExH C a)), rt := fun _ _ => False, bk := fun _ _ => False, ct := fun _ _ => False } (σ.set i (some (.ref a))) H
section
variable {X : Cx} {x n : Str} {c : Value} {i : Nat} {body suite : List Stmt} {b0 : Stmt} {np pos pos' : Pos} {tb : WX → TS} {ts : Addr → Value → Option Addr → TS}
/-- from the catch on -/
theorem catch_kept (hs : X.stack = X.env :: X.outer) (hf : X.env.frame = some X.env.locals) (hN : X.N.Nodup) (hi : X.N[i]? = some n) (hln : X.env.kindOf n = some .local) (hc : Names X x c) (hex : X.ex = [])
    (hsu : ∀ (a : Addr) (oe : Obj) (cls : Value) (d : Option Addr) (pn : List (Addr × Obj)), Zc cls d oe → (∃ vs, oe.data = .fields vs) → PSs (X.suite a ((a, oe) :: pn)) (b0 :: suite) (ts a cls d))
    {pins : List (Addr × Obj)} {D : Ends} {u : Value} {s' : Shared} {xe : Value → Shared → Prop} (ok : X.Ok) (q : L2.XE (X.tr (X.pn ++ pins) xe) (wKept X.K c i ts D) u s') :
    wpAny (model X.prog X.w) X.A (noteFrame u X.env) (fun _ s2 => wpAny (model X.prog X.w) X.A (setFlight u none) (fun _ s3 =>
      wpAny (model X.prog X.w) X.A (handleBy u X.env [.ExceptHandler (some (.Name x np)) (some n) (b0 :: suite) pos']) (SP X pins D) X.xe s3) X.xe s2) X.xe s' := by
  obtain ⟨a, B, sI, pins', σ1, H1, cls, d, eu, I', nb, up, sky, na, os, ag, hm, C, ec, ed, hts⟩ := q
  subst eu; subst ec; subst ed
  have I1 : Inv X pins σ1 H1 sI := I'.ofTry ok
  have hfr : X.A.frames = some (X.env :: X.outer) := by rw [ok.frames, hs]
  rw [show (X.tr (X.pn ++ pins) xe).stack = X.env :: X.outer from hs] at sky
  refine Sky.land Zc.steady hfr hf sky fun h3 fl3 up3 => ?_
  have I3 : Inv X pins σ1 H1 { s' with heap := h3 } := I1.landed nb fl3.1 (up.trans up3) os ag
  obtain ⟨oe3, vs3, he3, hz3, hd3⟩ := fl3.there
  have nfr : a ∉ frs (X.env :: X.outer) := fun z => by
    obtain ⟨_, o, e1, e2⟩ := (fl3.2.2.1).mem z
    rw [he3] at e1
    cases e1
    exact e2 _ hd3
  have nL : a ≠ X.env.locals := fun z => nfr (List.mem_filterMap.mpr ⟨X.env, List.mem_cons_self, by rw [hf, z]⟩)
  have nF : a ∉ X.fs := fun z => by
    obtain ⟨e, h1, h2⟩ := List.mem_filterMap.mp z
    exact nfr (List.mem_filterMap.mpr ⟨e, List.mem_cons_of_mem _ h1, h2⟩)
  have nB : B.get? a = none := fl3.2.1
  have nst : a ∉ frs X.stack := by rw [hs]; exact nfr
  -- it was made behind the entry, and is none of the pins
  have n0 : X.s_0.heap.get? a = none := by
    cases e : X.s_0.heap.get? a with
    | none => rfl
    | some o =>
      obtain ⟨o', e'⟩ := I1.base.there a o e (by rw [hex]; exact List.not_mem_nil)
      rw [nb a o' e' nst] at nB
      cases nB
  have npin : ∀ p ∈ X.pn ++ pins, p.1 ≠ a := fun p hp z => by
    obtain ⟨e1, _, e2, e3, _⟩ := I1.pin p hp
    rw [z] at e1
    have := nb a p.2 e1 nst
    rw [nB] at this
    cases this
  have S3 := I3.suite he3 hd3 na nL nF
  refine wpAny_handleBy_cons (codeAny_handlers_test ?_) (by intro q; cases q)
  have looks : PySem.W.Looks (model X.prog X.w) h3 (typeOf (.ref a)) (.ref C) := fun A Q E s k q => wpAny_typeOf_ref (k _ _ he3) (by rw [hz3.1]; exact q)
  have hit := PySem.W.exm_one (M := model X.prog X.w) I3.kIn looks hm
  have cond : ∀ {Q : Value → Shared → Prop} {E : Value → Shared → Prop}, Q c { s' with heap := h3 } → wpAny (model X.prog X.w) (X.A.mark (some (.ref a))) (eval (.Name x np) X.env) Q E { s' with heap := h3 } := fun {Q E} q => by
    obtain ⟨g1, g2, g3⟩ := hc
    rcases g3 with g3 | ⟨g3, g4, g5⟩
    · exact ld_glob (X := X.suite a ((a, oe3) :: (X.pn ++ pins))) S3 g1 g3 q g2
    · exact ld_blt (X := X.suite a ((a, oe3) :: (X.pn ++ pins))) S3 g1 g3 g4 q g5 g2
  refine cond (hit.here (codeAny_handlers_suite_as (HandSPX.lands_againZ fl3 fun h4 fl4 up4 => ?_)))
  have I4 : Inv X pins σ1 H1 { s' with heap := h4 } := I1.landed nb fl4.1 ((up.trans up3).trans up4) os ag
  obtain ⟨oe4, vs4, he4, hz4, hd4⟩ := fl4.there
  have S4 := I4.suite he4 hd4 na nL nF
  refine store_ok (X := X.suite a ((a, oe4) :: (X.pn ++ pins))) (v := .ref a) S4 hN hi (.inl hln) rfl (fun s5 S5 => ?_) (.inr hln)
  refine wpAny_mono ((hsu a oe4 (.ref C) none (X.pn ++ pins) hz4 ⟨_, hd4⟩).run [] s5 _ H1 _ S5 (hts a na)) (fun f s6 r => ?_) (fun _ _ z => False.elim z)
  cases f with
  | next =>
    obtain ⟨σ6, H6, S6, q6⟩ := r
    obtain ⟨p1, p2, _⟩ := S6.pin (a, oe4) (List.mem_append_left _ List.mem_cons_self)
    have I6 : Inv X pins σ6 H6 s6 := S6.unsuite ok
    exact gone_ok (Inv.track I6 p1 hz4 hd4 p2 n0 nL npin) hN hi hln fun s7 I7 => ⟨_, _, I7, q6 p2⟩
  | brk => obtain ⟨_, _, _, z⟩ := r; exact False.elim z
  | cont => obtain ⟨_, _, _, z⟩ := r; exact False.elim z
  | ret v => obtain ⟨_, _, _, _, _, z⟩ := r; exact False.elim z
theorem ps_try_kept (hs : X.stack = X.env :: X.outer) (hf : X.env.frame = some X.env.locals) (hN : X.N.Nodup) (hi : X.N[i]? = some n) (hln : X.env.kindOf n = some .local) (hc : Names X x c) (hex : X.ex = [])
    (hb : ∀ (W : WX) (pn : List (Addr × Obj)) (xe : Value → Shared → Prop), Takes (X.tr pn xe) W → PassesOwn (model X.prog X.w) X.A X.env xe → PSs (X.tr pn xe) body (tb W))
    (hsu : ∀ (a : Addr) (oe : Obj) (cls : Value) (d : Option Addr) (pn : List (Addr × Obj)), Zc cls d oe → (∃ vs, oe.data = .fields vs) → PSs (X.suite a ((a, oe) :: pn)) (b0 :: suite) (ts a cls d)) :
    PS X (.Try body [.ExceptHandler (some (.Name x np)) (some n) (b0 :: suite) pos'] [] [] pos) (fun D σ H => tb (wKept X.K c i ts D) D σ H) := by
  refine ⟨fun pins s σ H D I h => wpAny_Try_except ?_⟩
  have ok := I.ok
  refine wpAny_mono ((hb _ (X.pn ++ pins) _ (fun u s' q => ?_) PassesOwn.looking).run [] s σ H D (I.toTry _) h) (fun f s1 r => ?_) (fun e s1 he => he)
  · exact catch_kept hs hf hN hi hln hc hex hsu ok q
  · cases f with
    | next => obtain ⟨σ1, H1, J1, q⟩ := r; exact wpAny_execs_nil ⟨σ1, H1, J1.ofTry ok, q⟩
    | brk => obtain ⟨σ1, H1, J1, q⟩ := r; exact ⟨σ1, H1, J1.ofTry ok, q⟩
    | cont => obtain ⟨σ1, H1, J1, q⟩ := r; exact ⟨σ1, H1, J1.ofTry ok, q⟩
    | ret v => obtain ⟨v1, σ1, H1, J1, rv, q⟩ := r; exact ⟨v1, σ1, H1, J1.ofTry ok, rv, q⟩
end
end Pd
namespace Pd
open PySem L2
/-! ### texts as lists of codes -/
abbrev mkS (l : List Nat) : Str := ⟨l.toArray⟩
def splC (c : Nat) : List Nat → List (List Nat)
  | [] => [[]]
  | x :: r => if x = c then [] :: splC c r else match splC c r with
    | [] => [[x]]
    | h :: t => (x :: h) :: t
theorem splC_ne (c : Nat) : ∀ l, splC c l ≠ []
  | [] => by simp [splC]
  | x :: r => by
    unfold splC
    split
    · simp
    · split <;> simp
theorem splC_hit {c : Nat} (r : List Nat) : splC c (c :: r) = [] :: splC c r := by
  rw [splC, if_pos rfl]
theorem splC_miss {c x : Nat} (r : List Nat) (h : x ≠ c) : ∃ p t, splC c r = p :: t ∧ splC c (x :: r) = (x :: p) :: t := by
  rw [splC, if_neg h]
  cases e : splC c r with
  | nil => exact absurd e (splC_ne c r)
  | cons p t => exact ⟨p, t, rfl, rfl⟩
theorem spl_splC (c : Nat) : ∀ (l acc p : List Nat) (t : List (List Nat)), splC c l = p :: t → TL.spl [c] 0 acc l = (acc ++ p) :: t
  | [], acc, p, t, h => by
    simp only [splC, List.cons.injEq] at h
    obtain ⟨h1, h2⟩ := h
    subst h1; subst h2
    rw [TL.spl_nil, List.append_nil]
  | x :: r, acc, p, t, h => by
    by_cases hx : x = c
    · subst hx
      rw [splC_hit, List.cons.injEq] at h
      obtain ⟨h1, h2⟩ := h
      subst h1
      rw [TL.spl_hit (by simp [TL.pre]), List.append_nil]
      cases e : splC x r with
      | nil => exact absurd e (splC_ne x r)
      | cons q u =>
        have ih := spl_splC x r [] q u e
        rw [List.nil_append] at ih
        rw [← h2, e]
        exact congrArg _ ih
    · obtain ⟨q, u, e1, e2⟩ := splC_miss r hx
      rw [e2, List.cons.injEq] at h
      obtain ⟨h1, h2⟩ := h
      subst h1; subst h2
      rw [TL.spl_miss (by simp [TL.pre, hx]), spl_splC c r (acc ++ [x]) q u e1, List.append_assoc]
      rfl
theorem spl_eq (c : Nat) (l : List Nat) : TL.spl [c] 0 [] l = splC c l := by
  cases e : splC c l with
  | nil => exact absurd e (splC_ne c l)
  | cons p t => rw [spl_splC c l [] p t e, List.nil_append]
theorem split_C {a b : Str} {c : Nat} (h : b.cps.toList = [c]) (hc : c < 256) : Txt.split a b = (splC c a.cps.toList).map mkS := by
  have e := TL.split_spl a b (by rw [show TL.tl b = [c] from h]; simp) (TL.kind_ok (by rw [← Array.all_toList, h]; simpa using hc))
  rw [show TL.tl b = [c] from h, spl_eq] at e
  apply TL.map_tl_inj
  rw [e, List.map_map]
  have : (TL.tl ∘ mkS) = id := by funext l; rfl
  rw [this, List.map_id]
theorem splC_len (c : Nat) : ∀ l, (splC c l).length ≤ l.length + 1
  | [] => by simp [splC]
  | x :: r => by
    have ih := splC_len c r
    by_cases hx : x = c
    · subst hx; rw [splC_hit]; simp; omega
    · obtain ⟨q, u, e1, e2⟩ := splC_miss r hx
      rw [e2]; rw [e1] at ih; simp at ih ⊢; omega
theorem splC_mem (c : Nat) : ∀ (l : List Nat), ∀ p ∈ splC c l, (∀ d ∈ p, d ∈ l) ∧ p.length ≤ l.length
  | [], p, h => by simp [splC] at h; subst h; simp
  | x :: r, p, h => by
    have ih := splC_mem c r
    by_cases hx : x = c
    · subst hx
      rw [splC_hit] at h
      rcases List.mem_cons.mp h with h | h
      · subst h; simp
      · obtain ⟨h1, h2⟩ := ih p h
        exact ⟨fun d hd => List.mem_cons_of_mem _ (h1 d hd), by simp; omega⟩
    · obtain ⟨q, u, e1, e2⟩ := splC_miss r hx
      rw [e2] at h
      rw [e1] at ih
      rcases List.mem_cons.mp h with h | h
      · subst h
        obtain ⟨h1, h2⟩ := ih q List.mem_cons_self
        refine ⟨fun d hd => ?_, by simp; omega⟩
        rcases List.mem_cons.mp hd with hd | hd
        · rw [hd]; exact List.mem_cons_self
        · exact List.mem_cons_of_mem _ (h1 d hd)
      · obtain ⟨h1, h2⟩ := ih p (List.mem_cons_of_mem _ h)
        exact ⟨fun d hd => List.mem_cons_of_mem _ (h1 d hd), by simp; omega⟩
theorem splC_free (c : Nat) : ∀ (l : List Nat), ∀ p ∈ splC c l, c ∉ p
  | [], p, h => by simp [splC] at h; subst h; simp
  | x :: r, p, h => by
    have ih := splC_free c r
    by_cases hx : x = c
    · subst hx
      rw [splC_hit] at h
      rcases List.mem_cons.mp h with h | h
      · subst h; simp
      · exact ih p h
    · obtain ⟨q, u, e1, e2⟩ := splC_miss r hx
      rw [e2] at h
      rw [e1] at ih
      rcases List.mem_cons.mp h with h | h
      · subst h
        intro hm
        rcases List.mem_cons.mp hm with hm | hm
        · exact hx hm.symm
        · exact ih q List.mem_cons_self hm
      · exact ih p (List.mem_cons_of_mem _ h)
theorem splC_join (c : Nat) {ps : List (List Nat)} (h : ps ≠ []) (hf : ∀ p ∈ ps, c ∉ p) : splC c (TL.joinL [c] ps) = ps := by rw [← spl_eq]; exact TL.spl_join h hf
theorem len_codes (x : Str) : x.length = x.cps.toList.length := TL.len_tl x
theorem sok_codes {l : List Nat} (h1 : ∀ c ∈ l, c < 0x110000) (h2 : l.length ≤ 1000000) : sok (mkS l) = true := sok_of h1 (by rw [len_codes]; exact h2)
theorem Dens.strs {Γ : Wd} {ρ : List Addr} {F : Hp} : ∀ {ys : List Str}, (∀ y ∈ ys, sok y = true) → Dens Γ ρ F (ys.map Dt.str) (ys.map V.str)
  | [], _ => by simp only [List.map_nil, Dens]
  | y :: ys, h => by
    simp only [List.map_cons, Dens]
    exact ⟨_, _, rfl, by simp only [Den]; exact ⟨trivial, h y List.mem_cons_self⟩, Dens.strs fun z hz => h z (List.mem_cons_of_mem _ hz)⟩
section
variable {J : Cn} {X : Cx} {W : WX} {a b c e e2 o tgt iter elt : Expr} {es ifs : List Expr} {fa fb fc fe fo fi fv : Ex} {fs : List Ex} {ft fu : Tx} {pos p apos cpos tpos : Pos} {st : Stmt} {rest : List Stmt} {f1 f2 : Sx}
/-- x.split(c), c one sign -/
def dSplit (nw : List Dt → Sto → Out Dt) (x y : Dt) (s : Sto) : Out Dt := match x with
  | .str a => match y with
    | .str b => match b.cps.toList with
      | [c] => if c < 256 then nw ((splC c a.cps.toList).map fun l => .str (mkS l)) s else .bad
      | _ => .bad
    | _ => .bad
  | _ => .bad
theorem m_split {nw : List Dt → Sto → Out Dt} (n : IsNw nw) : Bm1 J X "str" "split" isStr (dSplit nw) := ⟨_, _, PySem.F.plainAttrs_str, PySem.F.slot_str_split, PySem.F.type_str_split, mt_split, ty_str, fun ρ F s H x y dx dy Q E g rx ry k => by
  cases dx with
  | str a =>
    cases dy with
    | str b =>
      simp only [Den] at rx ry
      simp only [dSplit] at k
      split at k
      · rename_i c hc
        split at k
        · rename_i h256
          have hl := sok_le rx.2
          have hla : a.cps.toList.length ≤ 1000000 := by rw [← len_codes]; exact hl
          refine ⟨a, b, rx.1, by rw [ry.1], ?_, by rw [sizeLine_eq]; omega, fun p hp => ?_⟩
          · rw [len_codes, hc]; rfl
          · rw [split_C hc h256]
            have t : Dens (wd J X) ρ F (((splC c a.cps.toList).map mkS).map Dt.str) (((splC c a.cps.toList).map mkS).map V.str) := Dens.strs fun y hy => by
              obtain ⟨l, h1, h2⟩ := List.mem_map.mp hy
              obtain ⟨h3, h4⟩ := splC_mem c _ l h1
              rw [← h2]
              exact sok_codes (fun d hd => sok_mem rx.2 (h3 d hd)) (Nat.le_trans h4 hla)
            have hz : (((splC c a.cps.toList).map mkS).map Dt.str).length ≤ sizeLine := by
              have := splC_len c a.cps.toList
              rw [List.length_map, List.length_map, sizeLine_eq]; omega
            refine new_lst (E := E) n g t hz hp ?_
            rw [List.map_map]
            exact k
        · exact False.elim k
      · exact False.elim k
    | _ => exact False.elim k
  | _ => exact False.elim k⟩
/-- texts alone -/
def asS : List Dt → Option (List Str)
  | [] => some []
  | .str b :: r => (asS r).map (b :: ·)
  | _ => none
theorem asS_map : ∀ (ys : List Str), asS (ys.map Dt.str) = some ys
  | [] => rfl
  | y :: ys => by simp only [List.map_cons, asS, asS_map ys, Option.map_some]
theorem Dens.texts {Γ : Wd} {ρ : List Addr} {F : Hp} : ∀ {l : List Dt} {xs : List V} {ys : List Str}, Dens Γ ρ F l xs → asS l = some ys → xs = ys.map V.str ∧ ∀ y ∈ ys, sok y = true
  | [], xs, ys, h, e => by simp only [Dens] at h; simp only [asS, Option.some.injEq] at e; subst e; exact ⟨h, fun _ h => nomatch h⟩
  | d :: l, xs, ys, h, e => by
    simp only [Dens] at h
    obtain ⟨v, r, e1, q, t⟩ := h
    cases d with
    | str b =>
      simp only [asS, Option.map_eq_some_iff] at e
      obtain ⟨ys', e2, e3⟩ := e
      simp only [Den] at q
      obtain ⟨h1, h2⟩ := Dens.texts t e2
      subst e3; subst e1
      rw [q.1, h1]
      refine ⟨rfl, fun y hy => ?_⟩
      rcases List.mem_cons.mp hy with hy | hy
      · rw [hy]; exact q.2
      · exact h2 y hy
    | _ => simp [asS] at e
/-- sep.join(..) -/
def dJoin (x y : Dt) (s : Sto) : Out Dt := match x with
  | .str a => match (asQ s y).bind asS with
    | some ys => if (ys.map (·.length)).sum + ys.length * a.length ≤ 1000000 then .ok (.str (mkS (TL.joinL a.cps.toList (ys.map (·.cps.toList))))) s else .bad
    | none => .bad
  | _ => .bad
theorem joinL_mem {S : List Nat} : ∀ {ps : List (List Nat)} {c : Nat}, c ∈ TL.joinL S ps → c ∈ S ∨ ∃ p ∈ ps, c ∈ p
  | [], c, h => by simp [TL.joinL] at h
  | [p], c, h => .inr ⟨p, List.mem_cons_self, h⟩
  | p :: q :: r, c, h => by
    simp only [TL.joinL, List.mem_append] at h
    rcases h with h | h | h
    · exact .inr ⟨p, List.mem_cons_self, h⟩
    · exact .inl h
    · rcases joinL_mem h with h | ⟨z, h1, h2⟩
      · exact .inl h
      · exact .inr ⟨z, List.mem_cons_of_mem _ h1, h2⟩
theorem joinL_len {S : List Nat} : ∀ (ps : List (List Nat)), (TL.joinL S ps).length ≤ (ps.map (·.length)).sum + ps.length * S.length
  | [] => by simp [TL.joinL]
  | [p] => by simp [TL.joinL]
  | p :: q :: r => by
    have ih := joinL_len (S := S) (q :: r)
    simp only [TL.joinL, List.length_append, List.map_cons, List.sum_cons, List.length_cons] at ih ⊢
    rw [Nat.succ_mul (r.length + 1)]
    omega
theorem m_join : Bm1 J X "str" "join" isStr dJoin := ⟨_, _, PySem.F.plainAttrs_str, PySem.F.slot_str_join, PySem.F.type_str_join, mt_join, ty_str, fun ρ F s H x y dx dy Q E g rx ry k => by
  cases dx with
  | str a =>
    simp only [Den] at rx
    simp only [dJoin] at k
    split at k
    · rename_i ys hys
      split at k
      · rename_i hz
        obtain ⟨l, e1, e2⟩ := Option.bind_eq_some_iff.mp hys
        obtain ⟨ad, xs, e3, q, t, _⟩ := g.sqQ ry e1
        obtain ⟨e4, hs⟩ := t.texts e2
        subst e4
        have ej : Txt.join a ys = mkS (TL.joinL a.cps.toList (ys.map (·.cps.toList))) := by
          apply TL.ext_tl
          rw [TL.join_eq, TL.tl_join]
        refine ⟨a, ad, ys, rx.1, by rw [e3], q, by omega, ?_⟩
        rw [ej]
        refine k ρ F H _ LE.refl g ?_
        simp only [Den]
        refine ⟨trivial, sok_codes (fun c hc => ?_) ?_⟩
        · rcases joinL_mem hc with h | ⟨p, h1, h2⟩
          · exact sok_mem rx.2 h
          · obtain ⟨z, h3, h4⟩ := List.mem_map.mp h1
            rw [← h4] at h2
            exact sok_mem (hs z h3) h2
        · have h1 := joinL_len (S := a.cps.toList) (ys.map (·.cps.toList))
          rw [List.map_map, List.length_map, ← len_codes] at h1
          have h2 : (ys.map ((fun x => x.length) ∘ fun x : Str => x.cps.toList)) = ys.map (·.length) := List.map_congr_left fun z _ => (len_codes z).symm
          rw [h2] at h1
          omega
      · exact False.elim k
    · exact False.elim k
  | _ => exact False.elim k⟩
/-- x.startswith(y) -/
def dStarts (x y : Dt) (s : Sto) : Out Dt := match x with
  | .str a => match y with
    | .str b => .ok (.bl (TL.pre b.cps.toList a.cps.toList)) s
    | _ => .bad
  | _ => .bad
theorem starts_pre (a b : Str) : Txt.startswith a b = TL.pre b.cps.toList a.cps.toList := by
  unfold Txt.startswith
  rw [StrLaws.subAt_eq, List.drop_zero]
  have e : (a.cps.toList.take b.length == b.cps.toList) = TL.pre b.cps.toList a.cps.toList := by unfold TL.pre; rw [len_codes]
  rw [e]
  cases h : TL.pre b.cps.toList a.cps.toList with
  | false => rw [Bool.and_false]
  | true =>
    have h1 := eq_of_beq h
    have h2 := congrArg List.length h1
    rw [List.length_take] at h2
    rw [Bool.and_true]
    refine decide_eq_true ?_
    rw [len_codes, len_codes]
    omega
theorem m_starts : Bm1 J X "str" "startswith" isStr dStarts := ⟨_, _, PySem.F.plainAttrs_str, PySem.F.slot_str_startswith, PySem.F.type_str_startswith, mt_startswith, ty_str, fun ρ F s H x y dx dy Q E g rx ry k => by
  cases dx with
  | str a =>
    cases dy with
    | str b =>
      simp only [Den] at rx ry
      refine ⟨a, b, rx.1, by rw [ry.1], ?_⟩
      rw [starts_pre]
      exact k ρ F H _ LE.refl g (by simp only [Den])
    | _ => exact False.elim k
  | _ => exact False.elim k⟩
/-- xs.index(y), flat things, it is there -/
def dIndex (x y : Dt) (s : Sto) : Out Dt := match asL s x with
  | some l => if flatD y && l.all flatD then ofO s ((l.findIdx? fun e => feq e y).map fun (j : Nat) => .int j) else .bad
  | none => .bad
theorem m_index : Bm1 J X "list" "index" isLst dIndex := ⟨_, _, PySem.F.plainAttrs_list, PySem.F.slot_list_index, PySem.F.type_list_index, mt_index, ty_lst, fun ρ F s H x y dx dy Q E g rx ry k => by
  unfold dIndex at k
  split at k
  · rename_i l hl
    split at k
    · rename_i hf
      simp only [Bool.and_eq_true] at hf
      obtain ⟨d, e, k⟩ := Po.ofO k
      obtain ⟨j, e1, e2⟩ := Option.map_eq_some_iff.mp e
      subst e2
      obtain ⟨ad, xs, e3, q, t, _⟩ := g.sqL rx hl
      have e4 := t.flat hf.2
      have e5 := ry.flat hf.1
      obtain ⟨hj, h1, h2⟩ := List.findIdx?_eq_some_iff_getElem.mp e1
      have fl : ∀ (m : Nat) (hm : m < l.length), flatD l[m] = true := fun m hm => List.all_eq_true.mp hf.2 _ (List.getElem_mem hm)
      subst e4; subst e5
      refine ⟨ad, _, _, j, toVd l[j], e3, rfl, q, flatV_toVd _, all_flat_map _, by rw [List.getElem?_map, List.getElem?_eq_getElem hj]; rfl, by rw [eqV_toVd (fl j hj) hf.1]; exact h1, fun m z' hm hz => ?_, k ρ F H _ LE.refl g (by simp only [Den])⟩
      have hml : m < l.length := by omega
      rw [List.getElem?_map, List.getElem?_eq_getElem hml] at hz
      have hz2 : toVd l[m] = z' := Option.some.inj hz
      rw [← hz2, eqV_toVd (fl m hml) hf.1]
      simpa using h2 m hm
    · exact False.elim k
  · exact False.elim k⟩
/-! ### o[i] = v -/
def putAt (x y v : Dt) (s : Sto) : Option Sto := match y with
  | .int k => match lstAt s x with
    | some (i, l) => (ixN l.length k).map fun j => s.set i (.lst (l.set j v))
    | none => none
  | _ => none
def sSetI (fo fi fv : Ex) : Sx := fun env => sBnd (fv env) env fun v => sBnd (fo env) env fun x => sBnd (fi env) env fun y s => match putAt x y v s with
  | some s' => .fl (.nx env) s'
  | none => .bad
theorem ss_setI (ho : ES J X W o fo) (hi : ES J X W e fi) (hv : ES J X W e2 fv)
    (ha : ∀ v, assign (.Subscript o e tpos) X.env v = (do
      let ov ← holding [v] (eval o X.env)
      let iv ← holding [v, ov] (eval e X.env)
      standAt tpos
      holding [v, ov, iv] (setItem ov iv v)
      release [v, ov, iv] []) := by intro _; rfl)
    (hs : swapsWithSole [.Subscript o e tpos] e2 pos.line X.env = pure false := by rfl) (hw : swappedStores [.Subscript o e tpos] e2 X.env = pure none := by rfl)
    (h1 : (assignEach [.Subscript o e tpos] X.env).map (·.2) = [assign (.Subscript o e tpos) X.env] := by rfl) : SS J X W (.Assign [.Subscript o e tpos] e2 pos) (sSetI fo fi fv) :=
  PS.imp (ps_asg hv (pg_sub ho hi set_list ha) hs hw h1) fun D σ H ⟨env, ρ, F, s, g, l, k⟩ => ⟨env, ρ, F, s, g, l, FPo.bind k l fun v s1 ρ1 F1 H1 u e1 l1 g1 r1 k1 =>
    ⟨env, ρ1, F1, s1, g1, l.mono l1, FPo.bind k1 (l.mono l1) fun x s2 ρ2 F2 H2 ov e3 l2 g2 r2 k2 =>
      ⟨env, ρ2, F2, s2, g2, l.mono (l1.trans l2), FPo.bind k2 (l.mono (l1.trans l2)) fun y s3 ρ3 F3 H3 iv e4 l3 g3 r3 k3 => by
        cases ep : putAt x y v s3 with
        | none => rw [ep] at k3; exact False.elim k3
        | some s4 =>
          rw [ep] at k3
          cases y with
          | int n =>
            simp only [putAt] at ep
            split at ep
            · rename_i i xs hl
              obtain ⟨j, hj, ej⟩ := Option.map_eq_some_iff.mp ep
              subst ej
              obtain ⟨ad, vs, h1, h2, h3, h4, h5⟩ := g3.lat (Den.mono l3 _ _ r2) hl
              simp only [Den] at r3
              have hlen : xs.length = vs.length := h4.length
              refine ⟨ad, vs, n, j, h1, r3, h3, by rw [← hlen]; exact hj, ?_⟩
              exact k3 ρ3 F3 _ σ (LE.put (List.mem_of_getElem? h2)) (g3.setL h2 h3 (Dens.set (Den.mono (l2.trans l3) _ _ r1) j h4) (by rw [List.length_set]; exact h5)) (l.mono ((l1.trans l2).trans l3))
            · cases ep
          | _ => simp [putAt] at ep⟩⟩⟩
/-! ### recursion -/
def sBad : Sx := fun _ _ => .bad
theorem ss_bad {sts : List Stmt} : SSs J X W sts sBad := ⟨fun pins s σ H D I q => by obtain ⟨env, ρ, F, st, g, l, k⟩ := q; exact False.elim k⟩
end
end Pd
namespace Pd
open PySem L2
section
variable {J : Cn} {X : Cx} {W : WX} {a b c e e2 o tgt iter elt : Expr} {es ifs : List Expr} {fa fb fc fe fo fi fv : Ex} {fs : List Ex} {ft fu : Tx} {pos p p2 apos cpos tpos : Pos} {st : Stmt} {rest : List Stmt} {f1 f2 : Sx}
/-! ### isinstance of a caught error -/
def rIsX (K : PySem.W.Frag) : List V → Hp → VK → Prop := fun xs H Q => ∃ (a D : Addr) (c : V) (cv : Value) (b : Bool), xs = [.ref a, c] ∧ ClsV c cv ∧ H a = some (ExH D a) ∧ ExcC K D ∧ PySem.W.kitOne K (.ref D) cv = some b ∧ Q (.bl b) H
theorem call_isX : CallR X (.builtin "isinstance") (rIsX X.K) := by
  intro pins s σ H xs us Q I r h
  obtain ⟨a, D, c, cv, b, rfl, k, hH, C, e, q⟩ := h
  obtain ⟨u1, u2, rfl, r1, r2⟩ := vals2 r
  have e2 := k.eq r2
  subst e2
  cases (show u1 = Value.ref a from r1)
  obtain ⟨⟨oe, vs, hget, hz, hv⟩, _⟩ := I.hok a _ hH
  have J : PySem.W.InstAt s.heap a oe D none := by
    obtain ⟨oc, od, oda, osl⟩ := oe
    obtain ⟨h1, h2⟩ := hz
    dsimp only at h1 h2 hv
    subst h1 h2 hv
    exact ⟨hget, rfl, rfl, trivial⟩
  exact PySem.W.kia_one (PySem.W.handS_kitx_exc C.hg C.hk C.hs C.hd C.ha C.hn C.ht C.hm) I.kIn J e (fun z => nomatch z) fun tk => ⟨.bl b, H, I.kept (t' := tk) fun _ _ z => z, rfl, q⟩
/-- of which classes errors are instances of cv -/
def IsxF (J : Cn) (K : PySem.W.Frag) (mg : Str → Option Value) (tb : List (Nat × Bool)) (cv : Value) : Prop := ∀ n b, tb.lookup n = some b → ∀ C, mg (J n).1 = some (.ref C) → ExcC K C ∧ PySem.W.kitOne K (.ref C) cv = some b
theorem isx_nil {K : PySem.W.Frag} {mg : Str → Option Value} {cv : Value} : IsxF J K mg [] cv := fun n b h => by cases h
theorem isx_cons {K : PySem.W.Frag} {mg : Str → Option Value} {cv : Value} {n : Nat} {b : Bool} {tb : List (Nat × Bool)} {C : Addr} (hC : mg (J n).1 = some (.ref C)) (hE : ExcC K C) (hk : PySem.W.kitOne K (.ref C) cv = some b) (hr : IsxF J K mg tb cv) : IsxF J K mg ((n, b) :: tb) cv := fun m b' h C' hC' => by
  rw [List.lookup_cons] at h
  split at h
  · rename_i q
    have e := eq_of_beq q
    subst e
    cases h
    have z := hC.symm.trans hC'
    cases z
    exact ⟨hE, hk⟩
  · exact hr m b' h C' hC'
def dIsx (tb : List (Nat × Bool)) (d : Dt) (s : Sto) : Out Dt := match d with
  | .exc c => ofO s ((tb.lookup c).map .bl)
  | _ => .bad
theorem isx_of {tb : List (Nat × Bool)} {cv : Value} {c : V} (hcv : ClsV c cv) (hf : IsxF J X.K X.mg tb cv) {ρ : List Addr} {F H : Hp} {s : Sto} {x : V} {d : Dt} {Q : VK} {E : Value → Hp → Prop} (g : G (wd J X) ρ F s H) (r : Den (wd J X) ρ F d x) (k : EPo (wd J X) ρ F H Q E (dIsx tb d s)) : rIsX X.K [x, c] H Q := by
  cases d with
  | exc n =>
    simp only [Den] at r
    obtain ⟨ad, C, e1, hC, hF⟩ := r
    obtain ⟨d, e3, k1⟩ := Po.ofO k
    obtain ⟨t, e4, e5⟩ := Option.map_eq_some_iff.mp e3
    subst e5
    obtain ⟨hE, hk⟩ := hf n t e4 C hC
    exact ⟨ad, C, c, cv, t, by rw [e1], hcv, g.sub _ _ hF, hE, hk, k1 ρ F H _ LE.refl g (by simp only [Den])⟩
  | _ => exact False.elim k
theorem es_isx {T : Str} {C : Addr} {tb : List (Nat × Bool)} (hf : IsxF J X.K X.mg tb (.ref C)) (hg : Gl X "isinstance") (hm : X.mg "isinstance" = none) (hgT : Gl X T) (hmT : X.mg T = some (.ref C)) (ha : ES J X W e fe)
    (hd : (T == ("__debug__" : Str)) = false := by decide)
    (he : starEach [e, .Name T p2] X.env = [(false, eval e X.env), (false, eval (.Name T p2) X.env)] := by rfl) : ES J X W (.Call (.Name "isinstance" p) [e, .Name T p2] [] pos) (eUn (dIsx tb) fe) :=
  PE.imp (pe_callB call_isX hg hm (by decide +kernel) (pa_cons ha (pa_cons (pe_glob (v := .ref C) hgT hmT rfl hd) pa_nil rfl) (by exact he)) (by decide) (by decide) (by exact he) rfl) fun σ H Q ⟨env, ρ, F, s, g, l, k⟩ => ⟨env, ρ, F, s, g, l, Po.bind k fun x s1 ρ1 F1 H1 v e1 l1 g1 r1 k1 => isx_of (.own C) hf g1 r1 k1⟩
theorem es_isxT {T : Str} {n : String} {tb : List (Nat × Bool)} (hf : IsxF J X.K X.mg tb (.type n)) (hg : Gl X "isinstance") (hm : X.mg "isinstance" = none) (hgT : Gl X T) (hmT : X.mg T = none) (hv : bootBuiltins T = some (.type n)) (ha : ES J X W e fe)
    (hn : T ≠ "__name__" := by decide) (hd : (T == ("__debug__" : Str)) = false := by decide)
    (he : starEach [e, .Name T p2] X.env = [(false, eval e X.env), (false, eval (.Name T p2) X.env)] := by rfl) : ES J X W (.Call (.Name "isinstance" p) [e, .Name T p2] [] pos) (eUn (dIsx tb) fe) :=
  PE.imp (pe_callB call_isX hg hm (by decide +kernel) (pa_cons ha (pa_cons (pe_bltn (v := .ty n) hgT hmT hv rfl hn hd) pa_nil rfl) (by exact he)) (by decide) (by decide) (by exact he) rfl) fun σ H Q ⟨env, ρ, F, s, g, l, k⟩ => ⟨env, ρ, F, s, g, l, Po.bind k fun x s1 ρ1 F1 H1 v e1 l1 g1 r1 k1 => isx_of (.ty n) hf g1 r1 k1⟩
/-! ### try: .. except C as n: held = n -/
/-- errors of these classes are taken by the clause of cv -/
def XmF (J : Cn) (K : PySem.W.Frag) (mg : Str → Option Value) (tb : List Nat) (cv : Value) : Prop := ∀ n, n ∈ tb → ∀ C, mg (J n).1 = some (.ref C) → PySem.W.exmOne K (.ref C) cv = some true
theorem xm_nil {K : PySem.W.Frag} {mg : Str → Option Value} {cv : Value} : XmF J K mg [] cv := fun n h => nomatch h
theorem xm_cons {K : PySem.W.Frag} {mg : Str → Option Value} {cv : Value} {n : Nat} {tb : List Nat} {C : Addr} (hC : mg (J n).1 = some (.ref C)) (hk : PySem.W.exmOne K (.ref C) cv = some true) (hr : XmF J K mg tb cv) : XmF J K mg (n :: tb) cv := fun m h C' hC' => by
  rcases List.mem_cons.mp h with e | h
  · subst e
    have z := hC.symm.trans hC'
    cases z
    exact hk
  · exact hr m h C' hC'
def sTryH (ih ie : Nat) (tb : List Nat) (fb : Sx) : Sx := fun env s => match fb env s with
  | .exc c env' s' => if c ∈ tb ∧ ie < env'.length then .fl (.nx ((env'.set ih (some (.exc c))).set ie none)) s' else .bad
  | r => r
theorem ss_try_held {x n h : Str} {cv : Value} {ie ih : Nat} {tb : List Nat} {body : List Stmt} {np pos' hp ep hpos : Pos} {fb : Sx} (hs : X.stack = X.env :: X.outer) (hf : X.env.frame = some X.env.locals) (hN : X.N.Nodup) (hi : X.N[ie]? = some n) (hln : X.env.kindOf n = some .local) (hc : Names X x cv) (hex : X.ex = []) (hm : XmF J X.K X.mg tb cv)
    (hb : ∀ (W : WX) (pn : List (Addr × Obj)) (xe : Value → Shared → Prop), Tks false (X.tr pn xe) W → PassesOwn (model X.prog X.w) X.A X.env xe → SSs J (X.tr pn xe) W body fb)
    (hv : ∀ (a : Addr) (pn : List (Addr × Obj)), PE (X.suite a pn) (.Name n ep) (tVar ie)) (hg : ∀ (a : Addr) (pn : List (Addr × Obj)), PG (X.suite a pn) (.Name h hp) (gName ih))
    (hsw : ∀ (a : Addr) (pn : List (Addr × Obj)), swapsWithSole [.Name h hp] (.Name n ep) hpos.line (X.suite a pn).env = pure false := by intro _ _; rfl) (hw : ∀ (a : Addr) (pn : List (Addr × Obj)), swappedStores [.Name h hp] (.Name n ep) (X.suite a pn).env = pure none := by intro _ _; rfl)
    (h1 : ∀ (a : Addr) (pn : List (Addr × Obj)), (assignEach [.Name h hp] (X.suite a pn).env).map (·.2) = [assign (.Name h hp) (X.suite a pn).env] := by intro _ _; rfl) :
    SS J X W (.Try body [.ExceptHandler (some (.Name x np)) (some n) [.Assign [.Name h hp] (.Name n ep) hpos] pos'] [] [] pos) (sTryH ih ie tb fb) := by
  refine PS.imp (ps_try_kept (tb := fun W => tS (wd J X) W fb) (ts := fun a cls d => tAsg (tVar ie) (gName ih)) hs hf hN hi hln hc hex (fun W pn xe tk po => hb W pn xe tk po) (fun a oe cls d pn _ _ => pss_one (ps_asg (hv a _) (hg a _) (hsw a _) (hw a _) (h1 a _)))) fun D σ H ⟨env, ρ, F, s, g, l, k⟩ => ⟨env, ρ, F, s, g, l, ?_⟩
  unfold sTryH at k
  cases er : fb env s with
  | fl f s1 => rw [er] at k; cases f <;> exact k
  | bad => rw [er] at k; exact k
  | exc cn env1 s1 =>
    rw [er] at k
    simp only [] at k
    split at k
    · rename_i hq
      intro ρ1 F1 H1 σ1 C l1 g1 sl1 hC
      refine ⟨hm cn hq.1 C hC, C, rfl, rfl, fun a ha => ?_⟩
      have hlen : ie < σ1.length := by rw [← sl1.len]; exact hq.2
      refine ⟨.ref a, List.getElem?_set_self hlen, fun hn => ?_⟩
      have g2 := g1.frz (ExH C a) ha
      have l2 := LE.frz (o := ExH C a) g1 ha
      have dx : Den (wd J X) ρ1 (upd F1 a (ExH C a)) (.exc cn) (.ref a) := by
        simp only [Den]
        exact ⟨a, C, rfl, hC, upd_same⟩
      refine k ρ1 _ _ _ (l1.trans l2) g2 ?_
      have s3 := ((sl1.mono l2).set dx ih).unset ie
      refine ⟨by rw [s3.len]; simp, fun i d hd => ?_⟩
      obtain ⟨v, q1, q2⟩ := s3.at_ i d hd
      refine ⟨v, ?_, q2⟩
      rw [← q1]
      by_cases e1 : ie = i
      · subst e1
        rw [List.getElem?_set_self (by simpa using hlen), List.getElem?_set_self (by simpa using hlen)]
      · rw [List.getElem?_set_ne e1, List.getElem?_set_ne e1]
        by_cases e2 : ih = i
        · subst e2
          by_cases e3 : ih < σ1.length
          · rw [List.getElem?_set_self (by simpa using e3), List.getElem?_set_self (by simpa using e3)]
          · rw [List.getElem?_eq_none (by simpa using e3), List.getElem?_eq_none (by simpa using e3)]
        · rw [List.getElem?_set_ne e2, List.getElem?_set_ne e2, List.getElem?_set_ne e1]
    · exact False.elim k
/-! ### xs.count(y), flat things -/
theorem count_eqU {x : V} : ∀ {xs : List V} {us : List Value}, Vals xs us → xs.all flatV = true → us.countP (eqU x) = xs.countP fun y => eqV y x
  | _, _, .nil, _ => rfl
  | y :: ys, u :: us, .cons r t, f => by
    simp only [List.all_cons, Bool.and_eq_true] at f
    rw [List.countP_cons, List.countP_cons, count_eqU t f.2, eqU_of r f.1]
def rCntF (K : PySem.W.Frag) : V → List V → Hp → VK → Prop := fun x xs H Q => ∃ (p : Addr) (ys : List V) (y : V), x = .ref p ∧ xs = [y] ∧ SqL K H p ys ∧ flatV y = true ∧ ys.all flatV = true ∧ Q (.int ((ys.countP fun z => eqV z y : Nat) : Int)) H
theorem mt_cntF : MtR X "list.count" (rCntF X.K) := by
  intro pins s σ H x xs v us Q I rx rxs h
  obtain ⟨p, ys, y, rfl, rfl, hs, fy, fs, q⟩ := h
  cases rx
  obtain ⟨u, rfl, ru⟩ := rxs.one
  obtain ⟨its, rv, ⟨⟨cls, dd, data, sl⟩, n, ho, hc, hdn, hd⟩, hlen⟩ := I.list hs
  simp only at hc hd
  subst hc hd
  refine call_meets PySem.F.slot_list_count ⟨_, ho, rfl⟩ PySem.F.entry_list_count (PySem.F.args_list_count_2 _ _)
    (SeqAt.list_countAt p its.toArray n dd sl u (eqU y)) ⟨ho, fun w hw => mem_eqAt ru fy rv fs w (by simpa using hw), ?_⟩
  have ec : its.toArray.toList.countP (eqU y) = ys.countP fun z => eqV z y := count_eqU rv fs
  refine ⟨.int ((ys.countP fun z => eqV z y : Nat) : Int), H, I.tok _, ⟨s.toks, ?_⟩, q⟩
  show Value.int ((its.toArray.toList.countP (eqU y) : Nat) : Int) s.toks = Value.int ((ys.countP fun z => eqV z y : Nat) : Int) s.toks
  rw [ec]
def dCount (x y : Dt) (s : Sto) : Out Dt := match asL s x with
  | some l => if flatD y && l.all flatD then .ok (.int ((l.countP fun e => feq e y : Nat) : Int)) s else .bad
  | none => .bad
theorem count_toVd {x : Dt} (hx : flatD x = true) : ∀ {ds : List Dt}, ds.all flatD = true → ((ds.map toVd).countP fun z => eqV z (toVd x)) = ds.countP fun e => feq e x
  | [], _ => rfl
  | d :: ds, k => by
    simp only [List.all_cons, Bool.and_eq_true] at k
    rw [List.map_cons, List.countP_cons, List.countP_cons, count_toVd hx k.2, eqV_toVd k.1 hx]
theorem m_count : Bm1 J X "list" "count" isLst dCount := ⟨_, _, PySem.F.plainAttrs_list, PySem.F.slot_list_count, PySem.F.type_list_count, mt_cntF, ty_lst, fun ρ F s H x y dx dy Q E g rx ry k => by
  unfold dCount at k
  split at k
  · rename_i l hl
    split at k
    · rename_i hf
      simp only [Bool.and_eq_true] at hf
      obtain ⟨ad, xs, e3, q, t, _⟩ := g.sqL rx hl
      have e4 := t.flat hf.2
      have e5 := ry.flat hf.1
      subst e4; subst e5
      refine ⟨ad, _, _, e3, rfl, q, flatV_toVd _, all_flat_map _, ?_⟩
      rw [count_toVd hf.1 hf.2]
      exact k ρ F H _ LE.refl g (by simp only [Den])
    · exact False.elim k
  · exact False.elim k⟩
end
end Pd
namespace Pd
open PySem L2
section
variable {J : Cn} {X : Cx} {W : WX} {a b c e e2 o tgt iter elt : Expr} {es ifs : List Expr} {fa fb fc fe fo fi fv : Ex} {fs : List Ex} {ft fu : Tx} {pos p p2 apos cpos tpos : Pos} {st : Stmt} {rest : List Stmt} {f1 f2 : Sx}
/-! ### a, b = x, y -/
def sPar (i j : Nat) (fa fb : Ex) : Sx := fun env => sBnd (evs [fa, fb] env) env fun ds s => match ds with
  | [x, y] => .fl (.nx ((env.set i (some x)).set j (some y))) s
  | _ => .bad
theorem ss_par {i j : Nat} {x y : Str} {px py pt : Pos} {kt k2 pt2} (hc : X.calm = true) (hN : X.N.Nodup) (hi : X.N[i]? = some x) (hj : X.N[j]? = some y) (hij : i ≠ j)
    (hx : X.env.scope.names.lookup x = some .local) (hy : X.env.scope.names.lookup y = some .local) (ha : ASo J X W [a, b] [fa, fb])
    (hw : swappedStores [.Tuple [.Name x px, .Name y py] kt pt] (.Tuple [a, b] k2 pt2) X.env = pure (some [x, y]))
    (hs : swapsWithSole [.Tuple [.Name x px, .Name y py] kt pt] (.Tuple [a, b] k2 pt2) pos.line X.env = pure false := by rfl) :
    SS J X W (.Assign [.Tuple [.Name x px, .Name y py] kt pt] (.Tuple [a, b] k2 pt2) pos) (sPar i j fa fb) :=
  PS.imp (ps_par hc hN hi hj hij hx hy ha hw hs) fun D σ H ⟨env, ρ, F, s, g, l, k⟩ => ⟨env, ρ, F, s, g, l, FPo.bind k l fun ds s1 ρ1 F1 H1 vs e1 l1 g1 r1 k1 => by
    match ds, k1, r1 with
    | [d1, d2], k1, r1 =>
      simp only [Dens] at r1
      obtain ⟨v, r, e2, q1, v2, r2, e3, q2, e4⟩ := r1
      subst e2; subst e3; subst e4
      exact ⟨v, v2, rfl, k1 ρ1 F1 H1 _ LE.refl g1 (((l.mono l1).set q1 i).set q2 j)⟩
    | [], k1, _ => exact False.elim k1
    | [d1], k1, _ => exact False.elim k1
    | d1 :: d2 :: d3 :: ds, k1, _ => exact False.elim k1⟩
/-! ### is, is not of truths -/
theorem op_isB : OpR X (compareOp .Is) (fun x y H Q => ∃ a b, x = .bl a ∧ y = .bl b ∧ Q (.bl (a == b)) H) := by
  intro pins s σ H x y v u Q I rx ry h
  obtain ⟨a, b, rfl, rfl, q⟩ := h
  cases (show v = Value.bool a from rx)
  cases (show u = Value.bool b from ry)
  exact wpAny_is_plain rfl (fin_bl I q (by cases a <;> cases b <;> rfl))
theorem op_isNotB : OpR X (compareOp .IsNot) (fun x y H Q => ∃ a b, x = .bl a ∧ y = .bl b ∧ Q (.bl (!(a == b))) H) := by
  intro pins s σ H x y v u Q I rx ry h
  obtain ⟨a, b, rfl, rfl, q⟩ := h
  cases (show v = Value.bool a from rx)
  cases (show u = Value.bool b from ry)
  exact wpAny_isNot_plain rfl (fin_bl I q (by cases a <;> cases b <;> rfl))
def dIsB (x y : Dt) (s : Sto) : Out Dt := match x with
  | .bl a => match y with
    | .bl b => .ok (.bl (a == b)) s
    | _ => .bad
  | _ => .bad
def dIsNotB (x y : Dt) (s : Sto) : Out Dt := match x with
  | .bl a => match y with
    | .bl b => .ok (.bl (!(a == b))) s
    | _ => .bad
  | _ => .bad
theorem c_isB : CmpOk J X .Is dIsB := ⟨_, op_isB, fun ρ F s H x y dx dy Q E g rx ry k => by
  cases dx with
  | bl a =>
    cases dy with
    | bl b => simp only [Den] at rx ry; exact ⟨a, b, rx, ry, k ρ F H _ LE.refl g (by simp only [Den])⟩
    | _ => exact False.elim k
  | _ => exact False.elim k⟩
theorem c_isNotB : CmpOk J X .IsNot dIsNotB := ⟨_, op_isNotB, fun ρ F s H x y dx dy Q E g rx ry k => by
  cases dx with
  | bl a =>
    cases dy with
    | bl b => simp only [Den] at rx ry; exact ⟨a, b, rx, ry, k ρ F H _ LE.refl g (by simp only [Den])⟩
    | _ => exact False.elim k
  | _ => exact False.elim k⟩
/-! ### list * int -/
def dRep (nw : List Dt → Sto → Out Dt) (x y : Dt) (s : Sto) : Out Dt := match y with
  | .int k => match trkL s x with
    | some l => if k < 1000000 ∧ -1000000 < k ∧ l.length * k.toNat ≤ sizeLine then nw (List.replicate k.toNat l).flatten s else .bad
    | none => .bad
  | _ => .bad
theorem Dens.rep {Γ : Wd} {ρ : List Addr} {F : Hp} {l : List Dt} {xs : List V} (t : Dens Γ ρ F l xs) : ∀ n : Nat, Dens Γ ρ F (List.replicate n l).flatten (List.replicate n xs).flatten
  | 0 => by simp [Dens]
  | n + 1 => by
    rw [List.replicate_succ, List.replicate_succ, List.flatten_cons, List.flatten_cons]
    exact Dens.append t (Dens.rep t n)
theorem es_rep {nw : List Dt → Sto → Out Dt} (n : IsNw nw) (ha : ES J X W a fa) (hb : ES J X W b fb) : ES J X W (.BinOp a .Mult b pos) (eOp (dRep nw) fa fb) :=
  es_op op_rep (fun ρ F s H x y dx dy Q E g rx ry k => by
    cases dy with
    | int m =>
      simp only [Den] at ry
      simp only [dRep] at k
      split at k
      · rename_i l hl
        split at k
        · rename_i hz
          obtain ⟨ad, xs, e1, q, t, _⟩ := g.trk rx hl
          have hlen : (List.replicate m.toNat l).flatten.length ≤ sizeLine := by
            rw [List.length_flatten, List.map_replicate, List.sum_replicate_nat, Nat.mul_comm]
            exact hz.2.2
          exact ⟨ad, m, xs, e1, ry, q, by omega, by omega, by rw [← t.length]; exact hz.2.2, fun p hp => new_lst n g (t.rep m.toNat) hlen hp k⟩
        · exact False.elim k
      · exact False.elim k
    | _ => exact False.elim k) ha hb
end
end Pd
namespace Pd
open PySem L2
/-! ### tables -/
section
variable {κ α : Type} [DecidableEq κ]
def valA (kvs : List (κ × α)) (k : κ) : Option α := (kvs.find? fun kv => decide (kv.1 = k)).map (·.2)
def putA (kvs : List (κ × α)) (k : κ) (v : α) : List (κ × α) :=
  if (kvs.any fun kv => decide (kv.1 = k)) = true then kvs.map (fun kv => if kv.1 = k then (kv.1, v) else kv) else kvs ++ [(k, v)]
def dropA (kvs : List (κ × α)) (k : κ) : List (κ × α) := kvs.filter fun kv => decide (kv.1 ≠ k)
theorem length_putA (kvs : List (κ × α)) (k : κ) (v : α) : (putA kvs k v).length ≤ kvs.length + 1 := by
  unfold putA
  split
  · rw [List.length_map]; omega
  · rw [List.length_append]; simp
theorem putA_keys {kvs : List (κ × α)} {k : κ} {v : α} {P : κ → Prop} (h : ∀ kv ∈ kvs, P kv.1) (hk : P k) : ∀ kv ∈ putA kvs k v, P kv.1 := fun kv hkv => by
  unfold putA at hkv
  split at hkv
  · obtain ⟨x, h1, h2⟩ := List.mem_map.mp hkv
    rw [← h2]
    split
    · exact h x h1
    · exact h x h1
  · rcases List.mem_append.mp hkv with h1 | h1
    · exact h kv h1
    · rw [List.mem_singleton] at h1; rw [h1]; exact hk
variable {Γ : Wd} {ρ : List Addr} {F : Hp}
theorem DenK.val : ∀ {kvs : List (κ × Dt)} {vs : List (κ × V)} (k : κ), DenK Γ ρ F kvs vs → (valA kvs k = none ∧ valV vs k = none) ∨ ∃ d v, valA kvs k = some d ∧ valV vs k = some v ∧ Den Γ ρ F d v
  | [], vs, k, h => by
    simp only [DenK] at h
    subst h
    exact .inl ⟨rfl, rfl⟩
  | (f, d) :: r, vs, k, h => by
    obtain ⟨v, r', e, q, t⟩ := h
    subst e
    by_cases hf : f = k
    · refine .inr ⟨d, v, ?_, ?_, q⟩
      · simp [valA, List.find?_cons, hf]
      · simp [valV, List.find?_cons, hf]
    · rcases DenK.val k t with ⟨h1, h2⟩ | ⟨d', v', h1, h2, h3⟩
      · refine .inl ⟨?_, ?_⟩
        · rw [← h1]; simp [valA, List.find?_cons, hf]
        · rw [← h2]; simp [valV, List.find?_cons, hf]
      · refine .inr ⟨d', v', ?_, ?_, h3⟩
        · rw [← h1]; simp [valA, List.find?_cons, hf]
        · rw [← h2]; simp [valV, List.find?_cons, hf]
theorem DenK.any : ∀ {kvs : List (κ × Dt)} {vs : List (κ × V)} (k : κ), DenK Γ ρ F kvs vs → (kvs.any fun kv => decide (kv.1 = k)) = vs.any fun kv => decide (kv.1 = k)
  | [], vs, k, h => by simp only [DenK] at h; subst h; rfl
  | (f, d) :: r, vs, k, h => by
    obtain ⟨v, r', e, q, t⟩ := h
    subst e
    rw [List.any_cons, List.any_cons, DenK.any k t]
theorem DenK.repl {d : Dt} {v : V} (hd : Den Γ ρ F d v) : ∀ {kvs : List (κ × Dt)} {vs : List (κ × V)} (k : κ), DenK Γ ρ F kvs vs → DenK Γ ρ F (kvs.map fun kv => if kv.1 = k then (kv.1, d) else kv) (vs.map fun kv => if kv.1 = k then (kv.1, v) else kv)
  | [], vs, k, h => by simp only [DenK] at h; subst h; simp [DenK]
  | (f, d') :: r, vs, k, h => by
    obtain ⟨v', r', e, q, t⟩ := h
    subst e
    rw [List.map_cons, List.map_cons]
    by_cases hf : f = k
    · simp only [hf, if_true]
      exact ⟨v, _, rfl, hd, DenK.repl hd k t⟩
    · simp only [hf, if_false]
      exact ⟨v', _, rfl, q, DenK.repl hd k t⟩
theorem DenK.snoc {d : Dt} {v : V} (hd : Den Γ ρ F d v) (k : κ) : ∀ {kvs : List (κ × Dt)} {vs : List (κ × V)}, DenK Γ ρ F kvs vs → DenK Γ ρ F (kvs ++ [(k, d)]) (vs ++ [(k, v)])
  | [], vs, h => by
    simp only [DenK] at h
    subst h
    exact ⟨v, [], rfl, hd, rfl⟩
  | (f, d') :: r, vs, h => by
    obtain ⟨v', r', e, q, t⟩ := h
    subst e
    exact ⟨v', _, rfl, q, DenK.snoc hd k t⟩
theorem DenK.put {d : Dt} {v : V} (hd : Den Γ ρ F d v) (k : κ) {kvs : List (κ × Dt)} {vs : List (κ × V)} (h : DenK Γ ρ F kvs vs) : DenK Γ ρ F (putA kvs k d) (putK vs k v) := by
  unfold putA putK
  rw [h.any k]
  split
  · exact DenK.repl hd k h
  · exact DenK.snoc hd k h
theorem DenK.drop (k : κ) : ∀ {kvs : List (κ × Dt)} {vs : List (κ × V)}, DenK Γ ρ F kvs vs → DenK Γ ρ F (dropA kvs k) (dropK vs k)
  | [], vs, h => by simp only [DenK] at h; subst h; exact rfl
  | (f, d') :: r, vs, h => by
    obtain ⟨v', r', e, q, t⟩ := h
    subst e
    have ih := DenK.drop k t
    unfold dropA dropK at ih ⊢
    rw [List.filter_cons, List.filter_cons]
    by_cases hf : f = k
    · simp only [hf, ne_eq, not_true_eq_false, decide_false, Bool.false_eq_true, if_false]
      exact ih
    · simp only [hf, ne_eq, not_false_eq_true, decide_true, if_true]
      exact ⟨v', _, rfl, q, ih⟩
end
/-! ### keys -/
def keyD : Dt → Option Key
  | .int i => some (.inl i)
  | .str x => some (.inr x)
  | _ => none
def keysL : List Dt → Option (List Key)
  | [] => some []
  | d :: r => match keyD d, keysL r with
    | some k, some ks => some (k :: ks)
    | _, _ => none
def keysD : Dt → Option (List Key)
  | .tup l => keysL l
  | _ => none
section
variable {Γ : Wd} {ρ : List Addr} {F H : Hp} {s : Sto}
theorem Den.key {d : Dt} {v : V} {k : Key} (h : Den Γ ρ F d v) (e : keyD d = some k) : v = kV k ∧ kOk k = true := by
  cases d with
  | int i => simp only [Den] at h; simp only [keyD, Option.some.injEq] at e; subst e; exact ⟨h, rfl⟩
  | str x => simp only [Den] at h; simp only [keyD, Option.some.injEq] at e; subst e; exact h
  | _ => simp [keyD] at e
theorem Dens.keys : ∀ {ds : List Dt} {vs : List V} {ks : List Key}, Dens Γ ρ F ds vs → keysL ds = some ks → vs = ks.map kV ∧ ks.all kOk = true
  | [], vs, ks, h, e => by
    simp only [Dens] at h; simp only [keysL, Option.some.injEq] at e
    subst h; subst e
    exact ⟨rfl, rfl⟩
  | d :: ds, vs, ks, h, e => by
    simp only [Dens] at h; simp only [keysL] at e
    obtain ⟨v, r, e1, q, t⟩ := h
    split at e
    · rename_i k ks' h1 h2
      cases e
      obtain ⟨a1, a2⟩ := q.key h1
      obtain ⟨b1, b2⟩ := Dens.keys t h2
      subst e1
      rw [a1, b1]
      exact ⟨rfl, by rw [List.all_cons, a2, b2]; rfl⟩
    · cases e
/-- what a dict of the store holds at a key -/
def dgetD (s : Sto) (x y : Dt) : Option (Option Dt) := match x with
  | .obj i => match s[i]? with
    | some (.dic kvs) => (keyD y).map (valA kvs)
    | some (.dicL kvs) => (keyD y).map (valA kvs)
    | some (.dit kvs) => (keysD y).map (valA kvs)
    | some (.ditL kvs) => (keysD y).map (valA kvs)
    | _ => none
  | _ => none
def ROD (Γ : Wd) (ρ : List Addr) (F : Hp) (o : Option Dt) (r : Option V) : Prop := (o = none ∧ r = none) ∨ ∃ d v, o = some d ∧ r = some v ∧ Den Γ ρ F d v
theorem Den.tupAt (g : G Γ ρ F s H) {d : Dt} {v : V} {ks : List Key} (h : Den Γ ρ F d v) (e : keysD d = some ks) : ∃ b, v = .ref b ∧ H b = some (.tup (ks.map kV)) ∧ ks.all kOk = true := by
  cases d with
  | tup l =>
    simp only [Den] at h
    obtain ⟨_, a, xs, e1, q, t⟩ := h
    obtain ⟨h1, h2⟩ := t.keys e
    subst h1
    exact ⟨a, e1, g.sub _ _ q, h2⟩
  | _ => simp [keysD] at e
theorem G.dget (g : G Γ ρ F s H) {x y : Dt} {v u : V} {o : Option Dt} (rx : Den Γ ρ F x v) (ry : Den Γ ρ F y u) (e : dgetD s x y = some o) : ∃ a r, v = .ref a ∧ DGet H a u r ∧ ROD Γ ρ F o r ∧ IsD H a := by
  cases x with
  | obj i =>
    simp only [Den] at rx
    obtain ⟨a, e1, q⟩ := rx
    simp only [dgetD] at e
    split at e
    · rename_i kvs hs
      obtain ⟨_, vs, hx, t⟩ := g.at_ i a _ q hs
      obtain ⟨k, h1, h2⟩ := Option.map_eq_some_iff.mp e
      obtain ⟨a1, _⟩ := ry.key h1
      subst a1; subst h2
      exact ⟨a, _, e1, .inl ⟨vs, k, .inl hx, rfl, rfl⟩, t.val k, .inl ⟨vs, .inl hx⟩⟩
    · rename_i kvs hs
      obtain ⟨_, od, vs, hx, t⟩ := g.at_ i a _ q hs
      obtain ⟨k, h1, h2⟩ := Option.map_eq_some_iff.mp e
      obtain ⟨a1, _⟩ := ry.key h1
      subst a1; subst h2
      exact ⟨a, _, e1, .inl ⟨vs, k, .inr ⟨od, hx.1⟩, rfl, rfl⟩, t.val k, .inl ⟨vs, .inr ⟨od, hx.1⟩⟩⟩
    · rename_i kvs hs
      obtain ⟨_, vs, hx, t⟩ := g.at_ i a _ q hs
      obtain ⟨k, h1, h2⟩ := Option.map_eq_some_iff.mp e
      obtain ⟨b, b1, b2, _⟩ := Den.tupAt g ry h1
      subst h2
      exact ⟨a, _, e1, .inr ⟨vs, k, b, .inl hx, b1, b2, rfl⟩, t.val k, .inr ⟨vs, .inl hx⟩⟩
    · rename_i kvs hs
      obtain ⟨_, od, vs, hx, t⟩ := g.at_ i a _ q hs
      obtain ⟨k, h1, h2⟩ := Option.map_eq_some_iff.mp e
      obtain ⟨b, b1, b2, _⟩ := Den.tupAt g ry h1
      subst h2
      exact ⟨a, _, e1, .inr ⟨vs, k, b, .inr ⟨od, hx.1⟩, b1, b2, rfl⟩, t.val k, .inr ⟨vs, .inr ⟨od, hx.1⟩⟩⟩
    · cases e
  | _ => simp [dgetD] at e
end
section
variable {J : Cn} {X : Cx} {W : WX} {a b c e e2 o tgt iter elt : Expr} {es ifs : List Expr} {fa fb fc fe fo fi fv fx : Ex} {fs : List Ex} {ft fu : Tx} {pos p p2 apos cpos tpos : Pos} {st : Stmt} {rest : List Stmt} {f1 f2 : Sx}
def eDnewK : Ex := fun _ s => .ok (.obj s.length) (s ++ [.dic []])
def eDnewT : Ex := fun _ s => .ok (.obj s.length) (s ++ [.dit []])
theorem es_dnewK : ES J X W (.Dict [] [] pos) eDnewK := PE.imp pe_dnewK fun σ H Q ⟨env, ρ, F, s, g, l, k⟩ p hp => by
  refine k (ρ ++ [p]) F _ _ (LE.new hp) (g.new hp ⟨⟨Nat.zero_le _, fun _ h => nomatch h⟩, [], upd_same, rfl⟩) ?_
  simp only [Den]
  exact ⟨p, rfl, by rw [← g.len, List.getElem?_append_right (Nat.le_refl _), Nat.sub_self]; rfl⟩
theorem es_dnewT : ES J X W (.Dict [] [] pos) eDnewT := PE.imp pe_dnewT fun σ H Q ⟨env, ρ, F, s, g, l, k⟩ p hp => by
  refine k (ρ ++ [p]) F _ _ (LE.new hp) (g.new hp ⟨⟨Nat.zero_le _, fun _ h => nomatch h⟩, [], upd_same, rfl⟩) ?_
  simp only [Den]
  exact ⟨p, rfl, by rw [← g.len, List.getElem?_append_right (Nat.le_refl _), Nat.sub_self]; rfl⟩
def dDget (x y : Dt) (s : Sto) : Out Dt := match dgetD s x y with
  | some (some d) => .ok d s
  | _ => .bad
theorem es_dget (hu : X.A.units + 1 < cLine) (ha : ES J X W a fa) (hb : ES J X W b fb) (hs : NoSl b := by exact fun _ _ => rfl) : ES J X W (.Subscript a b pos) (eOp dDget fa fb) :=
  PE.imp (pe_dget hu ha hb hs) fun σ H Q ⟨env, ρ, F, s, g, l, k⟩ => ⟨env, ρ, F, s, g, l, Po.bind k fun x s1 ρ1 F1 H1 v e1 l1 g1 r1 k1 => ⟨env, ρ1, F1, s1, g1, l.mono l1, Po.bind k1 fun y s2 ρ2 F2 H2 u e2 l2 g2 r2 k2 => by
    unfold dDget at k2
    split at k2
    · rename_i d hd
      obtain ⟨ad, r, h1, h2, h3, _⟩ := g2.dget (Den.mono l2 _ _ r1) r2 hd
      rcases h3 with ⟨h3, _⟩ | ⟨d', v', h3, h4, h5⟩
      · cases h3
      · cases h3
        subst h4
        exact ⟨ad, v', h1, h2, k2 ρ2 F2 H2 v' LE.refl g2 h5⟩
    · exact False.elim k2⟩⟩
/-- y in d -/
def dDin (y x : Dt) (s : Sto) : Out Dt := match dgetD s x y with
  | some o => .ok (.bl o.isSome) s
  | none => .bad
def dDnotIn (y x : Dt) (s : Sto) : Out Dt := match dgetD s x y with
  | some o => .ok (.bl (!o.isSome)) s
  | none => .bad
theorem ROD.isSome {Γ : Wd} {ρ : List Addr} {F : Hp} {o : Option Dt} {r : Option V} (h : ROD Γ ρ F o r) : r.isSome = o.isSome := by
  rcases h with ⟨h1, h2⟩ | ⟨d, v, h1, h2, _⟩ <;> rw [h1, h2] <;> rfl
theorem din_of {σ : St} {H : Hp} {Q : VK} (h : tE (wd J X) W (eOp dDin fa fb) σ H Q) : tDIn (tE (wd J X) W fa) (tE (wd J X) W fb) σ H Q := by
  obtain ⟨env, ρ, F, s, g, l, k⟩ := h
  refine ⟨env, ρ, F, s, g, l, Po.bind k fun y s1 ρ1 F1 H1 v e1 l1 g1 r1 k1 => ⟨env, ρ1, F1, s1, g1, l.mono l1, Po.bind k1 fun x s2 ρ2 F2 H2 u e2 l2 g2 r2 k2 => ?_⟩⟩
  unfold dDin at k2
  split at k2
  · rename_i ov hd
    obtain ⟨ad, r, h1, h2, h3, _⟩ := g2.dget r2 (Den.mono l2 _ _ r1) hd
    exact ⟨ad, r, h1, h2, by rw [h3.isSome]; exact k2 ρ2 F2 H2 _ LE.refl g2 (by simp only [Den])⟩
  · exact False.elim k2
theorem dnotin_of {σ : St} {H : Hp} {Q : VK} (h : tE (wd J X) W (eOp dDnotIn fa fb) σ H Q) : tDNotIn (tE (wd J X) W fa) (tE (wd J X) W fb) σ H Q := by
  obtain ⟨env, ρ, F, s, g, l, k⟩ := h
  refine ⟨env, ρ, F, s, g, l, Po.bind k fun y s1 ρ1 F1 H1 v e1 l1 g1 r1 k1 => ⟨env, ρ1, F1, s1, g1, l.mono l1, Po.bind k1 fun x s2 ρ2 F2 H2 u e2 l2 g2 r2 k2 => ?_⟩⟩
  unfold dDnotIn at k2
  split at k2
  · rename_i ov hd
    obtain ⟨ad, r, h1, h2, h3, _⟩ := g2.dget r2 (Den.mono l2 _ _ r1) hd
    exact ⟨ad, r, h1, h2, by rw [h3.isSome]; exact k2 ρ2 F2 H2 _ LE.refl g2 (by simp only [Den])⟩
  · exact False.elim k2
theorem es_din (hu : X.A.units + 1 < cLine) (ha : ES J X W a fa) (hb : ES J X W b fb) (hm : behindInMarks .In b = false := by rfl) : ES J X W (.Compare a [.In] [b] pos) (eOp dDin fa fb) := PE.imp (pe_cmp (pc_din hu ha hb) hm) fun σ H Q h => din_of h
theorem es_dnotIn (hu : X.A.units + 1 < cLine) (ha : ES J X W a fa) (hb : ES J X W b fb) (hm : behindInMarks .NotIn b = false := by rfl) : ES J X W (.Compare a [.NotIn] [b] pos) (eOp dDnotIn fa fb) := PE.imp (pe_cmp (pc_dnotin hu ha hb) hm) fun σ H Q h => dnotin_of h
theorem ts_din (hu : X.A.units + 1 < cLine) (ha : ES J X W a fa) (hb : ES J X W b fb) (hm : behindInMarks .In b = false := by rfl) : TSo J X W (.Compare a [.In] [b] pos) (tBl (eOp dDin fa fb)) := PT.imp (pt_cmp (pc_din hu ha hb) hm) fun σ H Q h => din_of (tT_bl h)
theorem ts_dnotIn (hu : X.A.units + 1 < cLine) (ha : ES J X W a fa) (hb : ES J X W b fb) (hm : behindInMarks .NotIn b = false := by rfl) : TSo J X W (.Compare a [.NotIn] [b] pos) (tBl (eOp dDnotIn fa fb)) := PT.imp (pt_cmp (pc_dnotin hu ha hb) hm) fun σ H Q h => dnotin_of (tT_bl h)
end
end Pd
namespace Pd
open PySem L2
section
variable {J : Cn} {X : Cx} {W : WX} {a b c e e2 o tgt iter elt : Expr} {es ifs : List Expr} {fa fb fc fe fo fi fv fx : Ex} {fs : List Ex} {ft fu : Tx} {pos p p2 apos cpos tpos : Pos} {st : Stmt} {rest : List Stmt} {f1 f2 : Sx}
/-! ### d[k] = v -/
def dputD (s : Sto) (x y v : Dt) : Option Sto := match x with
  | .obj i => match s[i]? with
    | some (.dic kvs) => (keyD y).bind fun k => if kvs.length < sizeLine then some (s.set i (.dic (putA kvs k v))) else none
    | some (.dit kvs) => (keysD y).bind fun k => if kvs.length < sizeLine then some (s.set i (.dit (putA kvs k v))) else none
    | _ => none
  | _ => none
theorem G.dput {Γ : Wd} {ρ : List Addr} {F H : Hp} {s s' : Sto} (g : G Γ ρ F s H) {x y v : Dt} {u w z : V} (rx : Den Γ ρ F x u) (ry : Den Γ ρ F y w) (rv : Den Γ ρ F v z) (e : dputD s x y v = some s') :
    ∃ a H', u = .ref a ∧ DPut H a w z H' ∧ G Γ ρ F s' H' ∧ LE ρ F H ρ F H' := by
  cases x with
  | obj i =>
    simp only [Den] at rx
    obtain ⟨a, e1, q⟩ := rx
    simp only [dputD] at e
    split at e
    · rename_i kvs hs
      obtain ⟨⟨z1, z2⟩, vs, hx, t⟩ := g.at_ i a _ q hs
      obtain ⟨k, h1, h2⟩ := Option.bind_eq_some_iff.mp e
      split at h2
      · rename_i hl
        cases h2
        obtain ⟨a1, a2⟩ := ry.key h1
        subst a1
        have hlen : vs.length = kvs.length := t.length.symm
        refine ⟨a, _, e1, .inl ⟨vs, k, hx, rfl, by rw [hlen]; exact hl, rfl⟩, g.put q (fun od u e => by rw [hx] at e; cases e) ⟨⟨?_, putA_keys (P := fun k : Key => kOk k = true) z2 a2⟩, _, upd_same, DenK.put rv k t⟩, LE.put (List.mem_of_getElem? q)⟩
        have := length_putA kvs k v
        omega
      · cases h2
    · rename_i kvs hs
      obtain ⟨⟨z1, z2⟩, vs, hx, t⟩ := g.at_ i a _ q hs
      obtain ⟨k, h1, h2⟩ := Option.bind_eq_some_iff.mp e
      split at h2
      · rename_i hl
        cases h2
        obtain ⟨b, b1, b2, b3⟩ := Den.tupAt g ry h1
        have hlen : vs.length = kvs.length := t.length.symm
        refine ⟨a, _, e1, .inr ⟨vs, k, b, hx, b1, b2, by rw [hlen]; exact hl, rfl⟩, g.put q (fun od u e => by rw [hx] at e; cases e) ⟨⟨?_, putA_keys (P := fun k : List Key => k.all kOk = true) z2 b3⟩, _, upd_same, DenK.put rv k t⟩, LE.put (List.mem_of_getElem? q)⟩
        have := length_putA kvs k v
        omega
      · cases h2
    · cases e
  | _ => simp [dputD] at e
def sDput (fo fi fv : Ex) : Sx := fun env => sBnd (fv env) env fun v => sBnd (fo env) env fun x => sBnd (fi env) env fun y s => match dputD s x y v with
  | some s' => .fl (.nx env) s'
  | none => .bad
theorem ss_dput (hu : X.A.units + 1 < cLine) (ho : ES J X W o fo) (hi : ES J X W e fi) (hv : ES J X W e2 fv) (hs : swapsWith e2 (some (.Subscript o e tpos)) pos.line X.env = pure false := by rfl) : SS J X W (.Assign [.Subscript o e tpos] e2 pos) (sDput fo fi fv) :=
  PS.imp (ps_dput hu ho hi hv hs) fun D σ H ⟨env, ρ, F, s, g, l, k⟩ => ⟨env, ρ, F, s, g, l, FPo.bind k l fun v s1 ρ1 F1 H1 u e1 l1 g1 r1 k1 =>
    ⟨env, ρ1, F1, s1, g1, l.mono l1, FPo.bind k1 (l.mono l1) fun x s2 ρ2 F2 H2 ov e3 l2 g2 r2 k2 =>
      ⟨env, ρ2, F2, s2, g2, l.mono (l1.trans l2), FPo.bind k2 (l.mono (l1.trans l2)) fun y s3 ρ3 F3 H3 iv e4 l3 g3 r3 k3 => by
        cases ep : dputD s3 x y v with
        | none => rw [ep] at k3; exact False.elim k3
        | some s4 =>
          rw [ep] at k3
          obtain ⟨ad, H4, h1, h2, h3, h4⟩ := g3.dput (Den.mono l3 _ _ r2) r3 (Den.mono (l2.trans l3) _ _ r1) ep
          exact ⟨ad, H4, h1, h2, k3 ρ3 F3 H4 σ h4 h3 (l.mono (((l1.trans l2).trans l3).trans h4))⟩⟩⟩⟩
/-! ### d.get(k), d.get(k, x) -/
def isDic (s : Sto) : Dt → Bool
  | .obj i => match s[i]? with
    | some (.dic _) => true
    | some (.dit _) => true
    | some (.dicL _) => true
    | some (.ditL _) => true
    | _ => false
  | _ => false
theorem G.isD {Γ : Wd} {ρ : List Addr} {F H : Hp} {s : Sto} (g : G Γ ρ F s H) {d : Dt} {v : V} (r : Den Γ ρ F d v) (h : isDic s d = true) : ∃ a, v = .ref a ∧ IsD H a := by
  cases d with
  | obj i =>
    simp only [Den] at r
    obtain ⟨a, e1, q⟩ := r
    simp only [isDic] at h
    refine ⟨a, e1, ?_⟩
    split at h
    · rename_i kvs hs
      obtain ⟨_, vs, hx, t⟩ := g.at_ i a _ q hs
      exact .inl ⟨vs, .inl hx⟩
    · rename_i kvs hs
      obtain ⟨_, vs, hx, t⟩ := g.at_ i a _ q hs
      exact .inr ⟨vs, .inl hx⟩
    · rename_i kvs hs
      obtain ⟨_, od, vs, hx, t⟩ := g.at_ i a _ q hs
      exact .inl ⟨vs, .inr ⟨od, hx.1⟩⟩
    · rename_i kvs hs
      obtain ⟨_, od, vs, hx, t⟩ := g.at_ i a _ q hs
      exact .inr ⟨vs, .inr ⟨od, hx.1⟩⟩
    · cases h
  | _ => exact Bool.noConfusion h
def eDget2 (fo fe fx : Ex) : Ex := fun env => bnd (fo env) fun x s => if isDic s x = true then bnd (fe env) (fun y => bnd (fx env) fun z s => match dgetD s x y with
  | some o => .ok (o.getD z) s
  | none => .bad) s else .bad
theorem es_dget2 (hu : X.A.units + 1 < cLine) (ho : ES J X W o fo) (he : ES J X W e fe) (hx : ES J X W e2 fx) (m : M2 X o "get" apos e e2 cpos := by exact ⟨rfl, rfl, rfl, rfl⟩) : ES J X W (.Call (.Attribute o "get" apos) [e, e2] [] cpos) (eDget2 fo fe fx) :=
  PE.imp (pe_dget2 hu ho he hx m) fun σ H Q ⟨env, ρ, F, s, g, l, k⟩ => ⟨env, ρ, F, s, g, l, Po.bind k fun x s1 ρ1 F1 H1 v e1 l1 g1 r1 k1 => by
    split at k1
    · rename_i hd
      obtain ⟨ad, h1, h2⟩ := g1.isD r1 hd
      exact ⟨ad, h1, h2, env, ρ1, F1, s1, g1, l.mono l1, Po.bind k1 fun y s2 ρ2 F2 H2 u e2 l2 g2 r2 k2 => ⟨env, ρ2, F2, s2, g2, (l.mono l1).mono l2, Po.bind k2 fun z s3 ρ3 F3 H3 w e3 l3 g3 r3 k3 => by
        split at k3
        · rename_i ov hg
          obtain ⟨ad', r, h3, h4, h5, _⟩ := g3.dget (Den.mono (l2.trans l3) _ _ r1) (Den.mono l3 _ _ r2) hg
          have ea : ad' = ad := by rw [h1] at h3; cases h3; rfl
          subst ea
          refine ⟨r, h4, ?_⟩
          rcases h5 with ⟨c1, c2⟩ | ⟨d, v', c1, c2, c3⟩
          · subst c1; subst c2; exact k3 ρ3 F3 H3 w LE.refl g3 r3
          · subst c1; subst c2; exact k3 ρ3 F3 H3 v' LE.refl g3 c3
        · exact False.elim k3⟩⟩
    · exact False.elim k1⟩
/-! ### d.pop(k), d.pop(k, x) -/
theorem KT_without {H : Hp} (k : List L2.Key) {kvs : List (List L2.Key × V)} {xs : List (List L2.Key × Addr × Value)} (h : KT H kvs xs) : KT H (dropK kvs k) (withoutH xs k) := L2.DX.KT_drop k h
/-- what pop does to the heap: o is what was there -/
def DPop (H : Hp) (a : Addr) (y : V) (o : Option V) (H' : Hp) : Prop :=
  (∃ kvs k, H a = some (.dK kvs) ∧ y = kV k ∧ valV kvs k = o ∧ ((o = none ∧ H' = H) ∨ (o.isSome = true ∧ H' = upd H a (.dK (dropK kvs k))))) ∨
  (∃ kvs k b, H a = some (.dT kvs) ∧ y = .ref b ∧ H b = some (.tup (k.map kV)) ∧ valV kvs k = o ∧ ((o = none ∧ H' = H) ∨ (o.isSome = true ∧ H' = upd H a (.dT (dropK kvs k)))))
theorem d_popA {pins : List (Addr × Obj)} {σ : St} {H H' : Hp} {s : Shared} {a : Addr} {u : Value} {A : Around} {E : Value → Shared → Prop} {y v : V} {more : List Value} {Q : Value → Shared → Prop} (hu : A.units + 1 < cLine) (I : Inv X pins σ H s) (g : DPop H a y (some v) H') (ry : RelV y u) (hm : more = [] ∨ ∃ x, more = [x])
    (h : ∀ w' s', Inv X pins σ H' s' → RelV v w' → Q w' s') : wpAny (model X.prog X.w) A (call (.builtin "dict.pop") (.ref a :: u :: more)) Q E s := by
  rcases g with ⟨kvs, k, e, ey, l, ⟨c, _⟩ | ⟨_, c⟩⟩ | ⟨kvs, k, b, e, ey, eb, l, ⟨c, _⟩ | ⟨_, c⟩⟩
  · cases c
  · subst ey; subst c
    exact d_pop I e ry l hm h
  · cases c
  · subst ey; subst c
    cases (show u = Value.ref b from ry)
    obtain ⟨z, hd, xs, rel, dd⟩ := dt_of I.hok e
    have hz : xs.length ≤ sizeLine := by rw [← Paired.length rel]; exact z
    have r := rel.val k
    rw [l] at r
    cases ea : atKey xs k with
    | none =>
      rw [ea] at r
      exact (show False from r).elim
    | some p =>
      rw [ea] at r
      have ha : argsOk "dict.pop" ⟨.ref a :: .ref b :: more, []⟩ := by
        rcases hm with q | ⟨x, q⟩
        · subst q; exact PySem.F.args_dict_pop_2 _ _
        · subst q; exact PySem.F.args_dict_pop_3 _ _ _
      refine call_pop_heap hm ha (tupleKind_room_in1 hu) (key_of I.hok eb) hd dd ea (fun h' dd' hs => ?_) hz
      obtain ⟨q, es, ep, hq, h2, h3, h4, _, h5⟩ := dd'
      refine h _ _ (d_write I (by rw [e]; exact True.intro) hs ⟨q, hq⟩ ⟨Nat.le_trans (dropK_le kvs k) z, hd, _, (KT_without k rel).keeps fun c ys ec => ?_, q, es, ep, hq, h2, h3, h4, h5⟩) r
      rw [upd_ne (ne_of ec e (fun z => nomatch z))]
      exact ec
theorem d_popN {pins : List (Addr × Obj)} {σ : St} {H H' : Hp} {s : Shared} {a : Addr} {u r : Value} {A : Around} {E : Value → Shared → Prop} {y : V} {Q : Value → Shared → Prop} (hu : A.units + 1 < cLine) (I : Inv X pins σ H s) (g : DPop H a y none H') (ry : RelV y u)
    (h : ∀ s', Inv X pins σ H' s' → Q r s') : wpAny (model X.prog X.w) A (call (.builtin "dict.pop") [.ref a, u, r]) Q E s := by
  rcases g with ⟨kvs, k, e, ey, l, ⟨_, c⟩ | ⟨c, _⟩⟩ | ⟨kvs, k, b, e, ey, eb, l, ⟨_, c⟩ | ⟨c, _⟩⟩
  · subst ey; subst c
    exact d_popD I e ry l h
  · cases c
  · subst ey; subst c
    cases (show u = Value.ref b from ry)
    obtain ⟨z, hd, xs, rel, dd⟩ := dt_of I.hok e
    have hz : xs.length ≤ sizeLine := by rw [← Paired.length rel]; exact z
    have r := rel.val k
    rw [l] at r
    cases ea : atKey xs k with
    | some p =>
      rw [ea] at r
      exact (show False from r).elim
    | none => exact call_pop_default_heap (tupleKind_room_in1 hu) (key_of I.hok eb) hd dd ea (fun tk => h _ (I.tok _)) hz
  · cases c
def tDPopA1 (td ty : TE) : TE := fun σ H Q => td σ H fun x H1 => ∃ a, x = .ref a ∧ IsD H1 a ∧ ty σ H1 fun y H2 => ∃ v H', DPop H2 a y (some v) H' ∧ Q v H'
def tDPopA2 (td ty tx : TE) : TE := fun σ H Q => td σ H fun x H1 => ∃ a, x = .ref a ∧ IsD H1 a ∧ ty σ H1 fun y H2 => tx σ H2 fun z H3 => ∃ ov H', DPop H3 a y ov H' ∧ Q (ov.getD z) H'
theorem pe_dpopA1 {td ty : TE} (hu : X.A.units + 1 < cLine) (ho : PE X o td) (he : PE X e ty) (m : M1 X o "pop" apos e cpos) : PE X (.Call (.Attribute o "pop" apos) [e] [] cpos) (tDPopA1 td ty) := by
  refine ⟨fun pins s σ H Q I h => ?_⟩
  refine wpAny_Call_method m.base m.few m.line PySem.F.plainAttrs_dict PySem.F.slot_dict_pop PySem.F.type_dict_pop (thn (ho.run pins s σ H _ I h) fun u s1 ⟨x, H1, I1, rx, a, ex, d, q1⟩ => ?_)
  subst ex
  obtain rfl : u = Value.ref a := rx
  obtain ⟨t1, t2, _⟩ := isD_at I1 d
  refine ⟨t1, t2, ?_⟩
  rw [m.trees]
  refine Calls.callWith_builtin rfl (Calls.evalArgs_plain (Calls.spliced_cons (thn (he.run pins s1 σ H1 _ I1 q1) fun iv s2 ⟨y, H2, I2, ry, v, H', g, q2⟩ => Calls.spliced_nil ?_)))
  exact d_popA hu I2 g ry (.inl rfl) fun w' s3 I3 rw' => ⟨v, _, I3, rw', q2⟩
theorem pe_dpopA2 {f : Expr} {td ty tx : TE} (hu : X.A.units + 1 < cLine) (ho : PE X o td) (he : PE X e ty) (hf : PE X f tx) (m : M2 X o "pop" apos e f cpos) : PE X (.Call (.Attribute o "pop" apos) [e, f] [] cpos) (tDPopA2 td ty tx) := by
  refine ⟨fun pins s σ H Q I h => ?_⟩
  refine wpAny_Call_method m.base m.few m.line PySem.F.plainAttrs_dict PySem.F.slot_dict_pop PySem.F.type_dict_pop (thn (ho.run pins s σ H _ I h) fun u s1 ⟨x, H1, I1, rx, a, ex, d, q1⟩ => ?_)
  subst ex
  obtain rfl : u = Value.ref a := rx
  obtain ⟨t1, t2, _⟩ := isD_at I1 d
  refine ⟨t1, t2, ?_⟩
  rw [m.trees]
  refine Calls.callWith_builtin rfl (Calls.evalArgs_plain (Calls.spliced_cons (thn (he.run pins s1 σ H1 _ I1 q1) fun iv s2 ⟨y, H2, I2, ry, q2⟩ =>
    Calls.spliced_cons (thn (hf.run pins s2 σ H2 _ I2 q2) fun fv s3 ⟨z, H3, I3, rz, ov, H', g, q3⟩ => Calls.spliced_nil ?_))))
  cases ov with
  | some v => exact d_popA hu I3 g ry (.inr ⟨fv, rfl⟩) fun w' s4 I4 rw' => ⟨v, _, I4, rw', q3⟩
  | none => exact d_popN hu I3 g ry fun s4 I4 => ⟨z, H', I4, rz, q3⟩
def dpopD (s : Sto) (x y : Dt) : Option (Dt × Sto) := match x with
  | .obj i => match s[i]? with
    | some (.dic kvs) => (keyD y).bind fun k => (valA kvs k).map fun d => (d, s.set i (.dic (dropA kvs k)))
    | some (.dit kvs) => (keysD y).bind fun k => (valA kvs k).map fun d => (d, s.set i (.dit (dropA kvs k)))
    | _ => none
  | _ => none
theorem G.dpop {Γ : Wd} {ρ : List Addr} {F H : Hp} {s s' : Sto} (g : G Γ ρ F s H) {x y d : Dt} {v u : V} (rx : Den Γ ρ F x v) (ry : Den Γ ρ F y u) (e : dpopD s x y = some (d, s')) : ∃ a r H', v = .ref a ∧ DPop H a u (some r) H' ∧ Den Γ ρ F d r ∧ G Γ ρ F s' H' ∧ LE ρ F H ρ F H' := by
  cases x with
  | obj i =>
    simp only [dpopD] at e
    simp only [Den] at rx
    obtain ⟨a', c1, q⟩ := rx
    split at e
    · rename_i kvs hs
      obtain ⟨⟨z1, z2⟩, vs, hx, t⟩ := g.at_ i a' _ q hs
      obtain ⟨kk, c2, c3⟩ := Option.bind_eq_some_iff.mp e
      obtain ⟨dd, c4, c5⟩ := Option.map_eq_some_iff.mp c3
      cases c5
      obtain ⟨c6, c7⟩ := ry.key c2
      subst c6
      rcases t.val kk with ⟨c8, _⟩ | ⟨d', v', c8, c9, c10⟩
      · rw [c8] at c4; cases c4
      · rw [c8] at c4
        cases c4
        exact ⟨a', v', _, c1, .inl ⟨vs, kk, hx, rfl, c9, .inr ⟨rfl, rfl⟩⟩, c10, g.put q (fun od u e => by rw [hx] at e; cases e) ⟨⟨Nat.le_trans (List.length_filter_le _ _) z1, fun kv hkv => z2 kv (List.mem_filter.mp hkv).1⟩, _, upd_same, t.drop kk⟩, LE.put (List.mem_of_getElem? q)⟩
    · rename_i kvs hs
      obtain ⟨⟨z1, z2⟩, vs, hx, t⟩ := g.at_ i a' _ q hs
      obtain ⟨kk, c2, c3⟩ := Option.bind_eq_some_iff.mp e
      obtain ⟨dd, c4, c5⟩ := Option.map_eq_some_iff.mp c3
      cases c5
      obtain ⟨b, b1, b2, b3⟩ := Den.tupAt g ry c2
      rcases t.val kk with ⟨c8, _⟩ | ⟨d', v', c8, c9, c10⟩
      · rw [c8] at c4; cases c4
      · rw [c8] at c4
        cases c4
        exact ⟨a', v', _, c1, .inr ⟨vs, kk, b, hx, b1, b2, c9, .inr ⟨rfl, rfl⟩⟩, c10, g.put q (fun od u e => by rw [hx] at e; cases e) ⟨⟨Nat.le_trans (List.length_filter_le _ _) z1, fun kv hkv => z2 kv (List.mem_filter.mp hkv).1⟩, _, upd_same, t.drop kk⟩, LE.put (List.mem_of_getElem? q)⟩
    · cases e
  | _ => simp [dpopD] at e
def eDpop1 (fo fe : Ex) : Ex := fun env => bnd (fo env) fun x s => if isDic s x = true then bnd (fe env) (fun y s => match dpopD s x y with
  | some (d, s') => .ok d s'
  | none => .bad) s else .bad
theorem es_dpop1 (hu : X.A.units + 1 < cLine) (ho : ES J X W o fo) (he : ES J X W e fe) (m : M1 X o "pop" apos e cpos := by exact ⟨rfl, rfl, rfl, rfl⟩) : ES J X W (.Call (.Attribute o "pop" apos) [e] [] cpos) (eDpop1 fo fe) :=
  PE.imp (pe_dpopA1 hu ho he m) fun σ H Q ⟨env, ρ, F, s, g, l, k⟩ => ⟨env, ρ, F, s, g, l, Po.bind k fun x s1 ρ1 F1 H1 v e1 l1 g1 r1 k1 => by
    split at k1
    · rename_i hd
      obtain ⟨ad, h1, h2⟩ := g1.isD r1 hd
      exact ⟨ad, h1, h2, env, ρ1, F1, s1, g1, l.mono l1, Po.bind k1 fun y s2 ρ2 F2 H2 u e2 l2 g2 r2 k2 => by
        split at k2
        · rename_i d s' hg
          obtain ⟨a', r, H', c1, c2, c3, c4, c5⟩ := g2.dpop (Den.mono l2 _ _ r1) r2 hg
          have ea : a' = ad := by rw [h1] at c1; cases c1; rfl
          subst ea
          exact ⟨r, H', c2, k2 ρ2 F2 H' r c5 c4 c3⟩
        · exact False.elim k2⟩
    · exact False.elim k1⟩
/-- d.pop(k, x) -/
def dpopO (s : Sto) (x y z : Dt) : Option (Dt × Sto) := (dgetD s x y).bind fun o => match o with
  | some _ => dpopD s x y
  | none => some (z, s)
def unlk (s : Sto) : Dt → Bool
  | .obj i => match s[i]? with
    | some (.dic _) => true
    | some (.dit _) => true
    | _ => false
  | _ => false
def eDpop2 (fo fe fx : Ex) : Ex := fun env => bnd (fo env) fun x s => if isDic s x = true then bnd (fe env) (fun y => bnd (fx env) fun z s => if unlk s x = true then match dpopO s x y z with
  | some (d, s') => .ok d s'
  | none => .bad else .bad) s else .bad
theorem G.dpopN {Γ : Wd} {ρ : List Addr} {F H : Hp} {s : Sto} (g : G Γ ρ F s H) {x y : Dt} {v u : V} (rx : Den Γ ρ F x v) (ry : Den Γ ρ F y u) (hu : unlk s x = true) (e : dgetD s x y = some none) : ∃ a, v = .ref a ∧ DPop H a u none H := by
  cases x with
  | obj i =>
    simp only [dgetD] at e
    simp only [unlk] at hu
    simp only [Den] at rx
    obtain ⟨a', c1, q⟩ := rx
    split at hu
    · rename_i kvs hs
      rw [hs] at e
      obtain ⟨_, vs, hx, t⟩ := g.at_ i a' _ q hs
      obtain ⟨kk, c2, c3⟩ := Option.map_eq_some_iff.mp e
      obtain ⟨c6, c7⟩ := ry.key c2
      subst c6
      rcases t.val kk with ⟨_, c8⟩ | ⟨d', v', c8, c9, c10⟩
      · exact ⟨a', c1, .inl ⟨vs, kk, hx, rfl, c8, .inl ⟨rfl, rfl⟩⟩⟩
      · rw [c8] at c3; cases c3
    · rename_i kvs hs
      rw [hs] at e
      obtain ⟨_, vs, hx, t⟩ := g.at_ i a' _ q hs
      obtain ⟨kk, c2, c3⟩ := Option.map_eq_some_iff.mp e
      obtain ⟨b, b1, b2, b3⟩ := Den.tupAt g ry c2
      rcases t.val kk with ⟨_, c8⟩ | ⟨d', v', c8, c9, c10⟩
      · exact ⟨a', c1, .inr ⟨vs, kk, b, hx, b1, b2, c8, .inl ⟨rfl, rfl⟩⟩⟩
      · rw [c8] at c3; cases c3
    · cases hu
  | _ => simp [dgetD] at e
theorem es_dpop2 (hu : X.A.units + 1 < cLine) (ho : ES J X W o fo) (he : ES J X W e fe) (hx : ES J X W e2 fx) (m : M2 X o "pop" apos e e2 cpos := by exact ⟨rfl, rfl, rfl, rfl⟩) : ES J X W (.Call (.Attribute o "pop" apos) [e, e2] [] cpos) (eDpop2 fo fe fx) :=
  PE.imp (pe_dpopA2 hu ho he hx m) fun σ H Q ⟨env, ρ, F, s, g, l, k⟩ => ⟨env, ρ, F, s, g, l, Po.bind k fun x s1 ρ1 F1 H1 v e1 l1 g1 r1 k1 => by
    split at k1
    · rename_i hd
      obtain ⟨ad, h1, h2⟩ := g1.isD r1 hd
      exact ⟨ad, h1, h2, env, ρ1, F1, s1, g1, l.mono l1, Po.bind k1 fun y s2 ρ2 F2 H2 u e2 l2 g2 r2 k2 => ⟨env, ρ2, F2, s2, g2, (l.mono l1).mono l2, Po.bind k2 fun z s3 ρ3 F3 H3 w e3 l3 g3 r3 k3 => by
        split at k3
        · rename_i hk
          split at k3
          · rename_i d s' hg
            obtain ⟨oo, g4, g5⟩ := Option.bind_eq_some_iff.mp hg
            cases oo with
            | some d0 =>
              obtain ⟨a', r, H', c1, c2, c3, c4, c5⟩ := g3.dpop (Den.mono (l2.trans l3) _ _ r1) (Den.mono l3 _ _ r2) g5
              have ea : a' = ad := by rw [h1] at c1; cases c1; rfl
              subst ea
              exact ⟨some r, H', c2, k3 ρ3 F3 H' r c5 c4 c3⟩
            | none =>
              cases g5
              obtain ⟨a', c1, c2⟩ := g3.dpopN (Den.mono (l2.trans l3) _ _ r1) (Den.mono l3 _ _ r2) hk g4
              have ea : a' = ad := by rw [h1] at c1; cases c1; rfl
              subst ea
              exact ⟨none, H3, c2, k3 ρ3 F3 H3 w LE.refl g3 r3⟩
          · exact False.elim k3
        · exact False.elim k3⟩⟩
    · exact False.elim k1⟩
end
end Pd
namespace Pd
open PySem L2
/-! ### a dict is locked, and freed again -/
def cutH (F : Hp) (d : Addr) : Hp := fun a => if a = d then none else F a
theorem cut_ne {F : Hp} {d a : Addr} (h : a ≠ d) : cutH F d a = F a := if_neg h
theorem cut_same {F : Hp} {d : Addr} : cutH F d d = none := if_pos rfl
/-- what a locked thing may be -/
def isDk : HO → Bool
  | .dK _ => true
  | .dT _ => true
  | _ => false
section
variable {Γ : Wd} {ρ : List Addr} {F : Hp} {d : Addr} {od : Obj} {u : HO}
theorem cut_some (hd : F d = some (.frz od u)) {a : Addr} {o : HO} (h : F a = some o) (n : ∀ od u, o ≠ .frz od u) : cutH F d a = some o := by
  rw [cut_ne (fun e => by rw [e, hd] at h; cases h; exact n od u rfl)]
  exact h
theorem sqL_cut (hd : F d = some (.frz od u)) (hu : isDk u = true) {K : PySem.W.Frag} {a : Addr} {xs : List V} (h : SqL K F a xs) : SqL K (cutH F d) a xs := by
  rcases h with (h | ⟨o, h⟩) | h
  · exact .inl (.inl (cut_some hd h fun _ _ e => by cases e))
  · refine .inl (.inr ⟨o, ?_⟩)
    rw [cut_ne (fun e => by rw [e, hd] at h; cases h; cases hu)]
    exact h
  · exact .inr h
mutual
theorem Den.cutF (hd : F d = some (.frz od u)) (hu : isDk u = true) : ∀ (x : Dt) (v : V), Den Γ ρ F x v → Den Γ ρ (cutH F d) x v
  | .non, v, h => by simpa only [Den] using h
  | .bl b, v, h => by simpa only [Den] using h
  | .int i, v, h => by simpa only [Den] using h
  | .str x, v, h => by simpa only [Den] using h
  | .tup ds, v, h => by
    simp only [Den] at h ⊢
    obtain ⟨z, a, xs, e, q, r⟩ := h
    exact ⟨z, a, xs, e, cut_some hd q (fun _ _ e => by cases e), Dens.cutF hd hu ds xs r⟩
  | .lst ds, v, h => by
    simp only [Den] at h ⊢
    obtain ⟨z, a, xs, e, q, r⟩ := h
    exact ⟨z, a, xs, e, cut_some hd q (fun _ _ e => by cases e), Dens.cutF hd hu ds xs r⟩
  | .lsk ds, v, h => by
    simp only [Den] at h ⊢
    obtain ⟨z, a, xs, e, q, r⟩ := h
    exact ⟨z, a, xs, e, sqL_cut hd hu q, Dens.cutF hd hu ds xs r⟩
  | .obj i, v, h => by simpa only [Den] using h
  | .exc c, v, h => by
    simp only [Den] at h ⊢
    obtain ⟨a, C, e, q, r⟩ := h
    exact ⟨a, C, e, q, cut_some hd r (fun _ _ e => by unfold ExH at e; cases e)⟩
theorem Dens.cutF (hd : F d = some (.frz od u)) (hu : isDk u = true) : ∀ (ds : List Dt) (vs : List V), Dens Γ ρ F ds vs → Dens Γ ρ (cutH F d) ds vs
  | [], vs, h => by simpa only [Dens] using h
  | x :: ds, vs, h => by
    simp only [Dens] at h ⊢
    obtain ⟨v, r, e, q, t⟩ := h
    exact ⟨v, r, e, Den.cutF hd hu x v q, Dens.cutF hd hu ds r t⟩
end
theorem DenK.cutF {κ : Type} (hd : F d = some (.frz od u)) (hu : isDk u = true) : ∀ {ds : List (κ × Dt)} {vs : List (κ × V)}, DenK Γ ρ F ds vs → DenK Γ ρ (cutH F d) ds vs
  | [], vs, h => h
  | (f, x) :: ds, vs, h => by
    obtain ⟨v, r, e, q, t⟩ := h
    exact ⟨v, r, e, Den.cutF hd hu x v q, DenK.cutF hd hu t⟩
theorem DenN.cutF (hd : F d = some (.frz od u)) (hu : isDk u = true) : ∀ {ds : List (NestedKey × Dt)} {es : List (NestedKey × Addr × Value)}, DenN Γ ρ F ds es → DenN Γ ρ (cutH F d) ds es
  | [], es, h => h
  | (k, x) :: ds, es, h => by
    obtain ⟨b, w, v, dk, t, e, h1, h2, h3, h4, h5⟩ := h
    exact ⟨b, w, v, dk, t, e, h1, Den.cutF hd hu _ _ h2, h3, Den.cutF hd hu _ _ h4, DenN.cutF hd hu h5⟩
theorem MoOk.cutF (hd : F d = some (.frz od u)) (hu : isDk u = true) {H H1 : Hp} {a : Addr} (na : a ≠ d) (e : H1 a = H a) : ∀ {mo : Mo}, MoOk Γ ρ F H a mo → MoOk Γ ρ (cutH F d) H1 a mo
  | .did kvs, ⟨z, y, es, h, q⟩ => ⟨z, y, es, by rw [e]; exact h, DenN.cutF hd hu q⟩
  | .lst ds, ⟨z, xs, h, q⟩ => ⟨z, xs, by rw [e]; exact h, Dens.cutF hd hu _ _ q⟩
  | .ins c fs, ⟨C, dx, vs, g, h, q, z⟩ => ⟨C, dx, vs, g, by rw [e]; exact h, Dens.cutF hd hu _ _ q, z⟩
  | .dic kvs, ⟨z, vs, h, q⟩ => ⟨z, vs, by rw [e]; exact h, DenK.cutF hd hu q⟩
  | .dit kvs, ⟨z, vs, h, q⟩ => ⟨z, vs, by rw [e]; exact h, DenK.cutF hd hu q⟩
  | .dicL kvs, ⟨z, o, vs, h, q⟩ => ⟨z, o, vs, ⟨by rw [e]; exact h.1, by rw [cut_ne na]; exact h.2⟩, DenK.cutF hd hu q⟩
  | .ditL kvs, ⟨z, o, vs, h, q⟩ => ⟨z, o, vs, ⟨by rw [e]; exact h.1, by rw [cut_ne na]; exact h.2⟩, DenK.cutF hd hu q⟩
end
/-- a dict, locked; a locked one, free -/
def lockM : Mo → Option Mo
  | .dic kvs => some (.dicL kvs)
  | .dit kvs => some (.ditL kvs)
  | _ => none
section
variable {Γ : Wd} {ρ : List Addr} {F H : Hp} {s : Sto}
theorem G.lock (g : G Γ ρ F s H) {i : Nat} {d : Addr} {mo mo' : Mo} (hi : ρ[i]? = some d) (hs : s[i]? = some mo) (hm : lockM mo = some mo') : ∃ u, H d = some u ∧ Mut (some u) ∧ isDk u = true ∧ F d = none ∧ ∀ od, G Γ ρ (upd F d (.frz od u)) (s.set i mo') (upd H d (.frz od u)) := by
  have gen : ∀ u, H d = some u → isDk u = true → (∀ od, F d = none → MoOk Γ ρ (upd F d (.frz od u)) (upd H d (.frz od u)) d mo') → ∃ u, H d = some u ∧ Mut (some u) ∧ isDk u = true ∧ F d = none ∧ ∀ od, G Γ ρ (upd F d (.frz od u)) (s.set i mo') (upd H d (.frz od u)) := fun u hu hk hmo => by
    have hF : F d = none := g.free (List.mem_of_getElem? hi) fun od v e => by rw [hu] at e; cases e; cases hk
    have mu : Mut (some u) := by
      cases u with
      | dK _ => exact True.intro
      | dT _ => exact True.intro
      | _ => cases hk
    refine ⟨u, hu, mu, hk, hF, fun od => ⟨fun a o h => ?_, by rw [List.length_set]; exact g.len, g.nd, fun a h => ?_, fun j b m h1 h2 => ?_⟩⟩
    · by_cases e : a = d
      · subst e; rw [upd_same] at h ⊢; exact h
      · rw [upd_ne e] at h ⊢; exact g.sub _ _ h
    · by_cases e : a = d
      · subst e; exact .inr ⟨od, u, upd_same⟩
      · rw [upd_ne e]; exact g.sep a h
    · by_cases hj : i = j
      · subst hj
        have e : d = b := Option.some.inj (hi.symm.trans h1)
        subst e
        rw [List.getElem?_set_self (List.getElem?_eq_some_iff.mp hs).1] at h2
        cases h2
        exact hmo od hF
      · rw [List.getElem?_set_ne hj] at h2
        exact (g.at_ j b m h1 h2).mono (LD.upd hF) (upd_ne fun z => hj (by subst z; exact nd_ix g.nd hi h1))
  cases mo with
  | dic kvs =>
    cases hm
    obtain ⟨z, vs, h, t⟩ := g.at_ i d _ hi hs
    exact gen (.dK vs) h rfl fun od hF => ⟨z, od, vs, ⟨upd_same, upd_same⟩, DenK.monoD (LD.upd hF) t⟩
  | dit kvs =>
    cases hm
    obtain ⟨z, vs, h, t⟩ := g.at_ i d _ hi hs
    exact gen (.dT vs) h rfl fun od hF => ⟨z, od, vs, ⟨upd_same, upd_same⟩, DenK.monoD (LD.upd hF) t⟩
  | _ => cases hm
theorem G.unlock (g : G Γ ρ F s H) {i : Nat} {d : Addr} {mo mo' : Mo} {od : Obj} {u : HO} (hi : ρ[i]? = some d) (hs : s[i]? = some mo') (hm : lockM mo = some mo') (hF : F d = some (.frz od u)) (hu : isDk u = true) :
    H d = some (.frz od u) ∧ G Γ ρ (cutH F d) (s.set i mo) (upd H d u) := by
  have hH : H d = some (.frz od u) := g.sub _ _ hF
  refine ⟨hH, fun a o h => ?_, by rw [List.length_set]; exact g.len, g.nd, fun a h => ?_, fun j b m h1 h2 => ?_⟩
  · by_cases e : a = d
    · subst e; rw [cut_same] at h; cases h
    · rw [cut_ne e] at h; rw [upd_ne e]; exact g.sub _ _ h
  · by_cases e : a = d
    · subst e; exact .inl cut_same
    · rw [cut_ne e]; exact g.sep a h
  · by_cases hj : i = j
    · subst hj
      have e : d = b := Option.some.inj (hi.symm.trans h1)
      subst e
      rw [List.getElem?_set_self (List.getElem?_eq_some_iff.mp hs).1] at h2
      cases h2
      have ok := g.at_ i d _ hi hs
      cases mo with
      | dic kvs =>
        cases hm
        obtain ⟨z, o2, vs, h, t⟩ := ok
        have e := hF.symm.trans h.2
        cases e
        exact ⟨z, vs, upd_same, DenK.cutF hF hu t⟩
      | dit kvs =>
        cases hm
        obtain ⟨z, o2, vs, h, t⟩ := ok
        have e := hF.symm.trans h.2
        cases e
        exact ⟨z, vs, upd_same, DenK.cutF hF hu t⟩
      | _ => cases hm
    · rw [List.getElem?_set_ne hj] at h2
      have nb : b ≠ d := fun z => hj (by subst z; exact nd_ix g.nd hi h1)
      exact MoOk.cutF hF hu nb (upd_ne nb) (g.at_ j b m h1 h2)
/-- from before the lock to behind it -/
theorem LE.locked {ρ' : List Addr} {F' H' : Hp} {d : Addr} {od : Obj} {u : HO} (hd : d ∈ ρ) (hF : F d = none) (hH : H d = some u) (l : LE ρ (upd F d (.frz od u)) (upd H d (.frz od u)) ρ' F' H') : LE ρ F H ρ' (cutH F' d) (upd H' d u) where
  ld := ⟨l.ld.pre, fun a o h => by
    have n : a ≠ d := fun e => by rw [e, hF] at h; cases h
    rw [cut_ne n]
    exact l.ld.sub a o (by rw [upd_ne n]; exact h)⟩
  fr := fun a h => by
    rcases l.fr a h with h | h
    · exact .inl h
    · by_cases e : a = d
      · subst e; rw [upd_same] at h; cases h
      · rw [upd_ne e] at h; exact .inr h
  ff := fun a o h => by
    by_cases e : a = d
    · subst e; rw [cut_same] at h; cases h
    · rw [cut_ne e] at h
      rcases l.ff a o h with ⟨v, h⟩ | h | ⟨n, xs, h⟩
      · rw [upd_ne e] at h; exact .inl ⟨v, h⟩
      · rw [upd_ne e] at h; exact .inr (.inl h)
      · rw [upd_ne e] at h; exact .inr (.inr ⟨n, xs, h⟩)
  keep := fun a o h n => by
    have e : a ≠ d := fun e => n (by rw [e]; exact hd)
    rw [upd_ne e]
    exact l.keep a o (by rw [upd_ne e]; exact h) n
  there := fun a o h => by
    by_cases e : a = d
    · subst e; exact ⟨u, upd_same⟩
    · obtain ⟨w, q⟩ := l.there a o (by rw [upd_ne e]; exact h)
      exact ⟨w, by rw [upd_ne e]; exact q⟩
end
open Classical in
noncomputable def unlockR (i : Nat) (mo mo' : Mo) : Res → Res
  | .fl f s => if s[i]? = some mo' then .fl f (s.set i mo) else .bad
  | _ => .bad
open Classical in
noncomputable def unlockO (i : Nat) (mo mo' : Mo) : Out Dt → Out Dt
  | .ok d s => if s[i]? = some mo' then .ok d (s.set i mo) else .bad
  | _ => .bad
/-- the dict that fo tells is locked while f runs -/
noncomputable def sLock (fo : Ex) (f : Sx) : Sx := fun env s => match fo env s with
  | .ok (.obj i) _ => match s[i]? with
    | some mo => match lockM mo with
      | some mo' => unlockR i mo mo' (f env (s.set i mo'))
      | none => .bad
    | none => .bad
  | _ => .bad
noncomputable def eLock (fo : Ex) (f : Ex) : Ex := fun env s => match fo env s with
  | .ok (.obj i) _ => match s[i]? with
    | some mo => match lockM mo with
      | some mo' => unlockO i mo mo' (f env (s.set i mo'))
      | none => .bad
    | none => .bad
  | _ => .bad
section
variable {J : Cn} {X : Cx} {W : WX} {e : Expr} {fo fe : Ex} {st : Stmt} {f1 : Sx}
theorem Sl.cutF {Γ : Wd} {ρ : List Addr} {F : Hp} {env : En} {σ : St} {d : Addr} {od : Obj} {u : HO} (h : Sl Γ ρ F env σ) (hd : F d = some (.frz od u)) (hu : isDk u = true) : Sl Γ ρ (cutH F d) env σ :=
  ⟨h.len, fun i x e => by obtain ⟨v, q, r⟩ := h.at_ i x e; exact ⟨v, q, Den.cutF hd hu x v r⟩⟩
theorem lock_at {Γ : Wd} {ρ : List Addr} {F H : Hp} {s : Sto} (g : G Γ ρ F s H) {i : Nat} {mo : Mo} (hs : s[i]? = some mo) : ∃ d, ρ[i]? = some d := by
  have hl : i < ρ.length := by rw [g.len]; exact (List.getElem?_eq_some_iff.mp hs).1
  exact ⟨ρ[i], List.getElem?_eq_getElem hl⟩
theorem ss_lock (fo : Ex) (h : SS J X W st f1) : SS J X W st (sLock fo f1) :=
  PS.imp (ps_lock h) fun D σ H ⟨env, ρ, F, s, g, l, k⟩ => by
    unfold sLock at k
    split at k
    · rename_i i s0 hfo
      split at k
      · rename_i mo hs
        split at k
        · rename_i mo' hm
          obtain ⟨d, hd⟩ := lock_at g hs
          obtain ⟨u, hH, mu, hu, hF, gl⟩ := g.lock hd hs hm
          refine ⟨d, u, hH, mu, fun od => ⟨env, ρ, _, _, gl od, ⟨l.len, fun j x e => by obtain ⟨v, q, r⟩ := l.at_ j x e; exact ⟨v, q, Den.monoD (LD.upd hF) x v r⟩⟩, ?_⟩⟩
          have hdm : d ∈ ρ := List.mem_of_getElem? hd
          cases er : f1 env (s.set i mo') with
          | bad => rw [er] at k; exact k
          | exc c e1 s1 => rw [er] at k; exact False.elim k
          | fl f s1 =>
            rw [er] at k
            simp only [unlockR] at k
            split at k
            · rename_i hs1
              have fin : ∀ {ρ' : List Addr} {F' H' : Hp}, LE ρ (upd F d (.frz od u)) (upd H d (.frz od u)) ρ' F' H' → G (wd J X) ρ' F' s1 H' → H' d = some (.frz od u) ∧ G (wd J X) ρ' (cutH F' d) (s1.set i mo) (upd H' d u) ∧ LE ρ F H ρ' (cutH F' d) (upd H' d u) ∧ F' d = some (.frz od u) := fun {ρ' F' H'} l' g' => by
                have hF' : F' d = some (.frz od u) := l'.ld.sub _ _ upd_same
                obtain ⟨a1, a2⟩ := g'.unlock (l'.ld.get hd) hs1 hm hF' hu
                exact ⟨a1, a2, LE.locked hdm hF hH l', hF'⟩
              cases f with
              | nx e1 => exact fun ρ' F' H' σ' l' g' sl' => by obtain ⟨a1, a2, a3, a4⟩ := fin l' g'; exact ⟨a1, k ρ' _ _ σ' a3 a2 (sl'.cutF a4 hu)⟩
              | rt x => exact fun ρ' F' H' v l' g' r' => by obtain ⟨a1, a2, a3, a4⟩ := fin l' g'; exact ⟨a1, k ρ' _ _ v a3 a2 (Den.cutF a4 hu x v r')⟩
              | bk e1 => exact fun ρ' F' H' σ' l' g' sl' => by obtain ⟨a1, a2, a3, a4⟩ := fin l' g'; exact ⟨a1, k ρ' _ _ σ' a3 a2 (sl'.cutF a4 hu)⟩
              | ct e1 => exact fun ρ' F' H' σ' l' g' sl' => by obtain ⟨a1, a2, a3, a4⟩ := fin l' g'; exact ⟨a1, k ρ' _ _ σ' a3 a2 (sl'.cutF a4 hu)⟩
            · exact False.elim k
        · exact False.elim k
      · exact False.elim k
    · exact False.elim k
theorem es_lock (fo : Ex) (h : ES J X W e fe) : ES J X W e (eLock fo fe) :=
  PE.imp (pe_lock h) fun σ H Q ⟨env, ρ, F, s, g, l, k⟩ => by
    unfold eLock at k
    split at k
    · rename_i i s0 hfo
      split at k
      · rename_i mo hs
        split at k
        · rename_i mo' hm
          obtain ⟨d, hd⟩ := lock_at g hs
          obtain ⟨u, hH, mu, hu, hF, gl⟩ := g.lock hd hs hm
          refine ⟨d, u, hH, mu, fun od => ⟨env, ρ, _, _, gl od, ⟨l.len, fun j x e => by obtain ⟨v, q, r⟩ := l.at_ j x e; exact ⟨v, q, Den.monoD (LD.upd hF) x v r⟩⟩, ?_⟩⟩
          have hdm : d ∈ ρ := List.mem_of_getElem? hd
          cases er : fe env (s.set i mo') with
          | bad => rw [er] at k; exact k
          | exc c s1 => rw [er] at k; exact False.elim k
          | ok x s1 =>
            rw [er] at k
            simp only [unlockO] at k
            split at k
            · rename_i hs1
              exact fun ρ' F' H' v l' g' r' => by
                have hF' : F' d = some (.frz od u) := l'.ld.sub _ _ upd_same
                obtain ⟨a1, a2⟩ := g'.unlock (l'.ld.get hd) hs1 hm hF' hu
                exact ⟨a1, k ρ' _ _ v (LE.locked hdm hF hH l') a2 (Den.cutF hF' hu x v r')⟩
            · exact False.elim k
        · exact False.elim k
      · exact False.elim k
    · exact False.elim k
end
end Pd
namespace Pd
open PySem L2
/-! ### d.keys(), any keys, d locked -/
section
variable {X : Cx} {tg e : Expr} {td : TE} {apos cpos : Pos}
theorem raw_noDict {s : Shared} {d : Addr} {o : Obj} (h : s.heap.get? d = some o) (hx : o.ExactDict) : ∀ x, Value.ref d = .ref x → ∃ o, s.heap.get? x = some o ∧ o.dict = none := fun x e => by
  cases e
  exact ⟨o, h, hx.2.1⟩
theorem pi_keysA (he : PE X e td) (hbase : attributeBase e "keys" X.env (eval e X.env) = eval e X.env := by rfl) (hline : (apos.endLine == cpos.line) = true := by rfl) : PI X tg (.Call (.Attribute e "keys" apos) [] [] cpos) (iKeys td) := by
  refine ⟨fun pins s σ H R I h => ?_⟩
  refine wpAny_Call_method (T := "dict") (id := "dict.keys") hbase rfl hline PySem.F.plainAttrs_dict PySem.F.slot_dict_keys PySem.F.type_dict_keys (thn (he.run pins s σ H _ I h) fun u s1 ⟨x, H1, I1, rx, d, o, ex, q⟩ => ?_)
  subst ex
  obtain rfl : u = Value.ref d := rx
  have I2 : Inv X pins σ H1 { s1 with heap := s1.heap.push { cls := .type "dict_keys", data := .fields #[.ref d] } } := I1.kept (t' := s1.toks) fun b ob q => Heap.get?_push_of_some _ q
  rcases q with ⟨kvs, hd, q⟩ | ⟨kvs, hd, q⟩
  · obtain ⟨hs, hgd, hx, es, ep, vs, hdt, hsz, kv, hm⟩ := I1.frzK hd
    have raw : s1.heap.DictRaw d es ep := ⟨o, hgd, hx, hdt⟩
    refine ⟨raw.typeIs, raw_noDict hgd hx, ?_⟩
    have fin : wpAny (model X.prog X.w) X.A (pyIter (.ref s1.heap.objs.size)) (PIE X pins σ tg R) X.xe { s1 with heap := s1.heap.push { cls := .type "dict_keys", data := .fields #[.ref d] } } := by
      refine PySem.wpAny_pyIter_keys_raw (d := d) (es := es) (ep := ep) ⟨_, Heap.get?_push_size _ rfl, rfl, rfl⟩ (raw.at fun o h => Heap.get?_push_of_some _ h) (pi_one (tk := s1.toks) I2 _ (turn_keys _ hdt) ⟨_, Heap.get?_push_size _ rfl, rfl, ?_⟩ q)
      rw [hsz] <;> rfl
    show wpAny _ _ (callWith cpos (.builtin "dict.keys") [.ref d] [] []) _ X.xe s1
    exact method_meetsIn PySem.F.slot_dict_keys PySem.F.entry_dict_keys rfl (PySem.evalArgs_none ⟨rfl, raw.typeIs, PySem.F.args_dict_keys_1 _, _, PySem.meets_dict_keys_raw d hs, ⟨es, ep, raw⟩, fin⟩)
  · obtain ⟨hs, hgd, hx, es, ep, hdt, hsz, ent⟩ := I1.frzT hd
    have raw : s1.heap.DictRaw d es ep := ⟨o, hgd, hx, hdt⟩
    refine ⟨raw.typeIs, raw_noDict hgd hx, ?_⟩
    have fin : wpAny (model X.prog X.w) X.A (pyIter (.ref s1.heap.objs.size)) (PIE X pins σ tg R) X.xe { s1 with heap := s1.heap.push { cls := .type "dict_keys", data := .fields #[.ref d] } } := by
      refine PySem.wpAny_pyIter_keys_raw (d := d) (es := es) (ep := ep) ⟨_, Heap.get?_push_size _ rfl, rfl, rfl⟩ (raw.at fun o h => Heap.get?_push_of_some _ h) (pi_one (tk := s1.toks) I2 _ (turn_keysT _ hdt) ⟨_, Heap.get?_push_size _ rfl, rfl, ?_⟩ q)
      rw [hsz] <;> rfl
    show wpAny _ _ (callWith cpos (.builtin "dict.keys") [.ref d] [] []) _ X.xe s1
    exact method_meetsIn PySem.F.slot_dict_keys PySem.F.entry_dict_keys rfl (PySem.evalArgs_none ⟨rfl, raw.typeIs, PySem.F.args_dict_keys_1 _, _, PySem.meets_dict_keys_raw d hs, ⟨es, ep, raw⟩, fin⟩)
end
/-! ### the walk by meanings -/
def keyDt : Key → Dt
  | .inl i => .int i
  | .inr x => .str x
def keysDt (k : List Key) : Dt := .tup (k.map keyDt)
section
variable {Γ : Wd} {ρ : List Addr} {F H : Hp} {s : Sto}
theorem Den.ofKey {k : Key} (h : kOk k = true) : Den Γ ρ F (keyDt k) (kV k) := by
  cases k with
  | inl i => simp only [keyDt, Den]; rfl
  | inr x => simp only [keyDt, Den]; exact ⟨rfl, h⟩
theorem Dens.ofKeys : ∀ {ks : List Key}, ks.all kOk = true → Dens Γ ρ F (ks.map keyDt) (ks.map kV)
  | [], _ => by simp only [List.map_nil, Dens]
  | k :: ks, h => by
    simp only [List.all_cons, Bool.and_eq_true] at h
    simp only [List.map_cons, Dens]
    exact ⟨_, _, rfl, Den.ofKey h.1, Dens.ofKeys h.2⟩
theorem DenK.get {κ : Type} : ∀ {kvs : List (κ × Dt)} {vs : List (κ × V)} {i : Nat} {k : κ} {v : V}, DenK Γ ρ F kvs vs → vs[i]? = some (k, v) → ∃ d, kvs[i]? = some (k, d)
  | [], vs, i, k, v, h, e => by simp only [DenK] at h; subst h; simp at e
  | (f, d) :: r, vs, i, k, v, h, e => by
    obtain ⟨w, r', e1, q, t⟩ := h
    subst e1
    cases i with
    | zero => simp at e; exact ⟨d, by simp [e.1]⟩
    | succ i => simp at e; obtain ⟨d', h'⟩ := DenK.get t e; exact ⟨d', by simpa using h'⟩
/-- a tuple that stands in the heap is taken for known -/
theorem G.adopt (g : G Γ ρ F s H) {q : Addr} {xs : List V} (hq : H q = some (.tup xs)) : ∃ F', LE ρ F H ρ F' H ∧ G Γ ρ F' s H ∧ F' q = some (.tup xs) := by
  cases e : F q with
  | some o =>
    have := g.sub _ _ e
    rw [hq] at this
    cases this
    exact ⟨F, LE.refl, g, e⟩
  | none =>
    have nr : q ∉ ρ := fun h => by
      obtain ⟨i, hi, e2⟩ := List.mem_iff_getElem.mp h
      have hs : i < s.length := by rw [← g.len]; exact hi
      have ok := g.at_ i q s[i] (by rw [← e2]; exact List.getElem?_eq_getElem hi) (List.getElem?_eq_getElem hs)
      generalize s[i] = mo at ok
      cases mo with
      | lst l => obtain ⟨_, _, h, _⟩ := ok; rw [hq] at h; cases h
      | ins c fs => obtain ⟨_, _, _, _, h, _⟩ := ok; rw [hq] at h; cases h
      | dic l => obtain ⟨_, _, h, _⟩ := ok; rw [hq] at h; cases h
      | dit l => obtain ⟨_, _, h, _⟩ := ok; rw [hq] at h; cases h
      | did l => obtain ⟨_, _, _, h, _⟩ := ok; rw [hq] at h; unfold NdO at h; cases h
      | dicL l => obtain ⟨_, _, _, h, _⟩ := ok; rw [hq] at h; cases h.1
      | ditL l => obtain ⟨_, _, _, h, _⟩ := ok; rw [hq] at h; cases h.1
    have ld : LD ρ F ρ (upd F q (.tup xs)) := LD.upd e
    refine ⟨upd F q (.tup xs), ⟨ld, fun _ h => .inl h, fun a o h => ?_, fun _ _ h _ => h, fun _ o h => ⟨o, h⟩⟩, ⟨fun a o h => ?_, g.len, g.nd, fun a h => ?_, fun i a mo h1 h2 => (g.at_ i a mo h1 h2).mono ld rfl⟩, upd_same⟩
    · by_cases ea : a = q
      · subst ea; exact .inr (.inr ⟨nr, xs, hq⟩)
      · rw [upd_ne ea] at h; exact .inl ⟨o, h⟩
    · by_cases ea : a = q
      · subst ea; rw [upd_same] at h; cases h; exact hq
      · rw [upd_ne ea] at h; exact g.sub _ _ h
    · rw [upd_ne (fun z => nr (by rw [← z]; exact h))]; exact g.sep a h
theorem its_keys {i : Nat} {d : Addr} {od : Obj} {kvs : List (Key × Dt)} {vs : List (Key × V)} (hi : ρ[i]? = some d) (hF : F d = some (.frz od (.dK vs))) (t : DenK Γ ρ F kvs vs) (hz : kvs.length ≤ sizeLine) (hk : ∀ kv ∈ kvs, kOk kv.1 = true) :
    ItS Γ ρ F (Itk d od vs) (kvs.map fun kv => keyDt kv.1) (fun s => s[i]? = some (.dicL kvs)) where
  len := by rw [List.length_map]; exact hz
  go := fun j ρ1 F1 s H ld g ok h => ⟨g.sub _ _ (ld.sub _ _ hF), by rw [← t.length]; rw [List.length_map] at h; exact h⟩
  stop := fun j ρ1 F1 s H ld g ok h => ⟨g.sub _ _ (ld.sub _ _ hF), by rw [← t.length]; rw [List.length_map] at h; exact Nat.le_of_eq h.symm⟩
  yld := fun j ρ1 F1 s H x v H' ld g ok hx y => by
    obtain ⟨e1, k, w, e2, e3⟩ := y
    subst e1
    obtain ⟨dd, h1⟩ := t.get e2
    rw [List.getElem?_map, h1] at hx
    cases hx
    subst e3
    exact ⟨F1, LE.refl, g, Den.ofKey (hk _ (List.mem_of_getElem? h1))⟩
theorem its_keysT {i : Nat} {d : Addr} {od : Obj} {kvs : List (List Key × Dt)} {vs : List (List Key × V)} (hi : ρ[i]? = some d) (hF : F d = some (.frz od (.dT vs))) (t : DenK Γ ρ F kvs vs) (hz : kvs.length ≤ sizeLine) (hk : ∀ kv ∈ kvs, kv.1.all kOk = true) (hs : ∀ kv ∈ kvs, kv.1.length ≤ 1000) :
    ItS Γ ρ F (Itkt d od vs) (kvs.map fun kv => keysDt kv.1) (fun s => s[i]? = some (.ditL kvs)) where
  len := by rw [List.length_map]; exact hz
  go := fun j ρ1 F1 s H ld g ok h => ⟨g.sub _ _ (ld.sub _ _ hF), by rw [← t.length]; rw [List.length_map] at h; exact h⟩
  stop := fun j ρ1 F1 s H ld g ok h => ⟨g.sub _ _ (ld.sub _ _ hF), by rw [← t.length]; rw [List.length_map] at h; exact Nat.le_of_eq h.symm⟩
  yld := fun j ρ1 F1 s H x v H' ld g ok hx y => by
    obtain ⟨e1, k, w, q, e2, e3, e4⟩ := y
    subst e1
    obtain ⟨dd, h1⟩ := t.get e2
    rw [List.getElem?_map, h1] at hx
    cases hx
    subst e3
    obtain ⟨F', l', g', hq⟩ := g.adopt e4
    refine ⟨F', l', g', ?_⟩
    simp only [keysDt, Den]
    exact ⟨by rw [List.length_map, sizeLine_eq]; have h9 : k.length ≤ 1000 := hs _ (List.mem_of_getElem? h1); omega, q, _, rfl, hq, Dens.ofKeys (hk _ (List.mem_of_getElem? h1))⟩
end
/-- the keys of a locked dict -/
def iKeysL (f : Ex) : Is := fun env => bnd (f env) fun d s => match d with
  | .obj i => match s[i]? with
    | some (.dicL kvs) => .ok (kvs.map fun kv => keyDt kv.1, fun s' => s'[i]? = some (.dicL kvs)) s
    | some (.ditL kvs) => if kvs.all (fun kv => decide (kv.1.length ≤ 1000)) = true then .ok (kvs.map fun kv => keysDt kv.1, fun s' => s'[i]? = some (.ditL kvs)) s else .bad
    | _ => .bad
  | _ => .bad
section
variable {J : Cn} {X : Cx} {W : WX} {e tgt : Expr} {fe : Ex} {apos cpos : Pos}
theorem is_keys (h : ES J X W e fe) (hbase : attributeBase e "keys" X.env (eval e X.env) = eval e X.env := by rfl) (hline : (apos.endLine == cpos.line) = true := by rfl) : IS J X W tgt (.Call (.Attribute e "keys" apos) [] [] cpos) (iKeysL fe) :=
  PI.imp (pi_keysA h hbase hline) fun σ H R ⟨env, ρ, F, s, g, l, k⟩ => ⟨env, ρ, F, s, g, l, Po.bind k fun d s1 ρ1 F1 H1 v e1 l1 g1 r1 k1 => by
    cases d with
    | obj i =>
      simp only [Den] at r1
      obtain ⟨a, ea, q⟩ := r1
      simp only [] at k1
      split at k1
      · rename_i kvs hs
        obtain ⟨⟨z1, z2⟩, od, vs, hx, t⟩ := g1.at_ i a _ q hs
        exact ⟨a, od, ea, .inl ⟨vs, hx.1, k1 ρ1 F1 H1 _ LE.refl g1 (its_keys q hx.2 t z1 z2)⟩⟩
      · rename_i kvs hs
        split at k1
        · rename_i hl
          obtain ⟨⟨z1, z2⟩, od, vs, hx, t⟩ := g1.at_ i a _ q hs
          exact ⟨a, od, ea, .inr ⟨vs, hx.1, k1 ρ1 F1 H1 _ LE.refl g1 (its_keysT q hx.2 t z1 z2 (fun kv hkv => by simpa using List.all_eq_true.mp hl kv hkv))⟩⟩
        · exact False.elim k1
      · exact False.elim k1
    | _ => exact False.elim k1⟩
end
end Pd
namespace Pd
open PySem L2
/-- an object comes to be the store's -/
theorem G.newAt {Γ : Wd} {ρ : List Addr} {F H : Hp} {s : Sto} (g : G Γ ρ F s H) {p : Addr} {o : HO} {mo : Mo} (hp : p ∉ ρ) (hf : F p = none) (hm : MoOk Γ (ρ ++ [p]) F (upd H p o) p mo) : G Γ (ρ ++ [p]) F (s ++ [mo]) (upd H p o) where
  sub := fun a u e => by
    rw [upd_ne (fun z => by rw [z, hf] at e; cases e)]; exact g.sub _ _ e
  len := by simp [g.len]
  nd := by
    refine List.nodup_append.mpr ⟨g.nd, by simp, fun a ha b hb => ?_⟩
    rw [List.mem_singleton] at hb
    rw [hb]
    exact fun z => hp (by rw [← z]; exact ha)
  sep := fun a h => by
    rcases List.mem_append.mp h with h | h
    · exact g.sep a h
    · rw [List.mem_singleton] at h; rw [h]; exact .inl hf
  at_ := fun i a m h1 h2 => by
    by_cases hi : i < ρ.length
    · rw [List.getElem?_append_left hi] at h1
      rw [List.getElem?_append_left (by rw [← g.len]; exact hi)] at h2
      exact (g.at_ i a m h1 h2).mono LD.push (upd_ne fun z => hp (by rw [← z]; exact List.mem_of_getElem? h1))
    · rw [List.getElem?_append_right (by omega)] at h1
      rw [List.getElem?_append_right (by rw [← g.len]; omega)] at h2
      have e0 : i - ρ.length = 0 := by
        have := (List.getElem?_eq_some_iff.mp h1).1
        simp at this
        omega
      rw [e0] at h1
      rw [← g.len, e0] at h2
      have e1 : p = a := Option.some.inj h1
      have e2 : mo = m := Option.some.inj h2
      subst e1; subst e2
      exact hm
theorem LE.newAt {ρ ρ1 : List Addr} {F F1 H H1 : Hp} {p : Addr} {o : HO} (l : LE ρ F H ρ1 F1 H1) (hp : H p = none) : LE ρ F H (ρ1 ++ [p]) F1 (upd H1 p o) where
  ld := l.ld.trans LD.push
  fr := fun a h => by
    rcases List.mem_append.mp h with h | h
    · exact l.fr a h
    · rw [List.mem_singleton] at h; rw [h]; exact .inr hp
  ff := l.ff
  keep := fun a u h n => by rw [upd_ne (ne_of_none h hp)]; exact l.keep a u h n
  there := fun a u h => by rw [upd_ne (ne_of_none h hp)]; exact l.there a u h
theorem nodup_inr {α β : Type} : ∀ {l : List β}, l.Nodup → (l.map (Sum.inr : β → α ⊕ β)).Nodup
  | [], _ => List.nodup_nil
  | x :: l, h => by
    rw [List.nodup_cons] at h
    rw [List.map_cons, List.nodup_cons]
    refine ⟨fun z => ?_, nodup_inr h.2⟩
    obtain ⟨y, hy, e⟩ := List.mem_map.mp z
    cases e
    exact h.1 hy
section
variable {J : Cn} {X : Cx} {W : WX} {a b c e e2 : Expr} {es : List Expr} {fa fb fc fe : Ex} {fs : List Ex} {pos p p2 : Pos}
/-! ### str(n) -/
def strI (i : Int) : Str := Str.ofString (toString i)
def dStr (d : Dt) (s : Sto) : Out Dt := match d with
  | .int i => if decide (i.natAbs < 2 ^ 64) && sok (strI i) then .ok (.str (strI i)) s else .bad
  | _ => .bad
theorem b_str : B1 J X (.type "str") dStr := ⟨_, call_str_int, fun ρ F s H x dx Q E g rx k => by
  cases dx with
  | int i =>
    simp only [Den] at rx
    subst rx
    simp only [dStr] at k
    split at k
    · rename_i h
      rw [Bool.and_eq_true, decide_eq_true_eq] at h
      refine ⟨i, rfl, ?_, k ρ F H _ LE.refl g (by simp only [Den]; exact ⟨rfl, h.2⟩)⟩
      by_cases h0 : i.natAbs = 0
      · rw [h0]; decide
      · exact Nat.lt_trans ((Nat.log2_lt h0).mpr h.1) (by decide)
    · exact False.elim k
  | _ => exact False.elim k⟩
/-! ### list(range(a, b)) -/
def rgD (i j : Int) : List Dt := (List.range (j - i).toNat).map fun (k : Nat) => .int (i + k)
theorem dens_rg {Γ : Wd} {ρ : List Addr} {F : Hp} (i : Int) : ∀ l : List Nat, Dens Γ ρ F (l.map fun (k : Nat) => .int (i + k)) (l.map fun (k : Nat) => V.int (i + k))
  | [] => by simp only [List.map_nil, Dens]
  | k :: l => by
    simp only [List.map_cons, Dens]
    exact ⟨_, _, rfl, by simp only [Den], dens_rg i l⟩
def eListRg (nw : List Dt → Sto → Out Dt) (fa fb : Ex) : Ex := eOp (fun x y s => match x, y with
  | .int i, .int j => if decide (-(2 ^ 62) ≤ i ∧ i < 2 ^ 62 ∧ -(2 ^ 62) ≤ j ∧ j < 2 ^ 62 ∧ (j - i).toNat ≤ 2 ^ 24) = true then nw (rgD i j) s else .bad
  | _, _ => .bad) fa fb
theorem es_listRg {pos2 : Pos} {nw : List Dt → Sto → Out Dt} (n : IsNw nw) (hc : X.calm = true) (hg : Gl X "list") (hm : X.mg "list" = none) (hg2 : Gl X "range") (hm2 : X.mg "range" = none) (ha : ES J X W a fa) (hb : ES J X W b fb)
    (na : starEach [a, b] X.env = (false, eval a X.env) :: starEach [b] X.env := by rfl) (nb : starEach [b] X.env = (false, eval b X.env) :: starEach [] X.env := by rfl) (nd : (backTo pos (starEach [b] X.env)).any (·.1) = false := by rfl)
    (nc : starEach [.Call (.Name "range" p2) [a, b] [] pos] X.env = (false, eval (.Call (.Name "range" p2) [a, b] [] pos) X.env) :: starEach [] X.env := by rfl) :
    ES J X W (.Call (.Name "list" p) [.Call (.Name "range" p2) [a, b] [] pos] [] pos2) (eListRg nw fa fb) :=
  PE.imp (pe_listRg hc hg hm (prg_2 hg2 hm2 ha hb na nb nd) nc) fun σ H Q ⟨env, ρ, F, s, g, l, k⟩ => ⟨env, ρ, F, s, g, l, Po.bind k fun x s1 ρ1 F1 H1 v e1 l1 g1 r1 k1 => ⟨env, ρ1, F1, s1, g1, l.mono l1, Po.bind k1 fun y s2 ρ2 F2 H2 u e2 l2 g2 r2 k2 => by
    have r1' := Den.mono l2 _ _ r1
    cases x with
    | int i =>
      cases y with
      | int j =>
        simp only [Den] at r1' r2
        simp only at k2
        split at k2
        · rename_i h
          have h := of_decide_eq_true h
          refine ⟨i, j, r1', r2, h, fun q hq => new_lst n g2 (dens_rg i _) ?_ hq k2⟩
          have := h.2.2.2.2
          rw [List.length_map, List.length_range, sizeLine_eq]
          omega
        · exact False.elim k2
      | _ => exact False.elim k2
    | _ => exact False.elim k2⟩⟩
/-! ### {"k": v, ..} -/
def trsOf (Γ : Wd) (W : WX) : List Str → List Ex → List (TE × TE)
  | k :: ks, f :: fs => (tC (.str k), tE Γ W f) :: trsOf Γ W ks fs
  | _, _ => []
theorem dps_nil : PPs X pos [] [] (trsOf (wd J X) W [] []) := pps_nil
theorem dps_cons {k : Str} {ks : List Str} {kes : List (Option Expr)} {j} {kp : Pos} (hv : ES J X W e fe) (hr : PPs X pos kes es (trsOf (wd J X) W ks fs)) :
    PPs X pos (some (.Constant (.str k) j kp) :: kes) (e :: es) (trsOf (wd J X) W (k :: ks) (fe :: fs)) := pps_cons pe_str hv hr
theorem tPairs_mono {Γ : Wd} {W : WX} {σ : St} : ∀ {ks : List Str} {fs : List Ex} {H : Hp} {Q Q' : List (V × V) → Hp → Prop}, tPairs (trsOf Γ W ks fs) σ H Q → (∀ ps H', Q ps H' → Q' ps H') → tPairs (trsOf Γ W ks fs) σ H Q'
  | [], [], H, Q, Q', h, k => k _ _ h
  | [], _ :: _, H, Q, Q', h, k => k _ _ h
  | _ :: _, [], H, Q, Q', h, k => k _ _ h
  | z :: ks, f :: fs, H, Q, Q', ⟨env, ρ, F, s, g, l, h⟩, k => ⟨env, ρ, F, s, g, l, h.mono LE.refl (fun v H1 q => tPairs_mono q fun ps H' q => k _ _ q) fun _ _ q => q⟩
theorem pairs_of {Γ : Wd} {W : WX} {σ : St} {env : En} {Q : List V → Hp → Prop} : ∀ {ks : List Str} {fs : List Ex} {ρ : List Addr} {F H : Hp} {s : Sto}, ks.length = fs.length → G Γ ρ F s H → Sl Γ ρ F env σ → APo Γ ρ F H Q (fun c H' => W c none σ H') (evs fs env s) →
    tPairs (trsOf Γ W ks fs) σ H fun ps H' => ∃ xs, ps = (ks.map V.str).zip xs ∧ Q xs H'
  | [], [], ρ, F, H, s, _, g, l, k => ⟨[], rfl, k ρ F H [] LE.refl g (by simp only [Dens])⟩
  | [], _ :: _, _, _, _, _, h, _, _, _ => by simp at h
  | _ :: _, [], _, _, _, _, h, _, _, _ => by simp at h
  | z :: ks, f :: fs, ρ, F, H, s, h, g, l, k => by
    refine ⟨env, ρ, F, s, g, l, Po.bind k fun x s1 ρ1 F1 H1 v e1 l1 g1 r1 k1 => ?_⟩
    have := pairs_of (W := W) (ks := ks) (fs := fs) (Q := fun xs H' => Q (v :: xs) H') (by simpa using h) g1 (l.mono l1) (Po.bind k1 fun ds s2 ρ2 F2 H2 us e2 l2 g2 r2 k2 => ?_)
    · refine tPairs_mono this fun ps H' ⟨xs, e, q⟩ => ⟨v :: xs, by rw [e]; rfl, q⟩
    · exact k2 ρ2 F2 H2 (v :: us) LE.refl g2 (by simp only [Dens]; exact ⟨v, us, rfl, Den.mono l2 _ _ r1, r2⟩)
theorem denK_zip {Γ : Wd} {ρ : List Addr} {F : Hp} : ∀ {ks : List Key} {ds : List Dt} {xs : List V}, Dens Γ ρ F ds xs → DenK Γ ρ F (ks.zip ds) (ks.zip xs)
  | [], ds, xs, _ => by simp [DenK]
  | k :: ks, [], xs, h => by simp only [Dens] at h; subst h; simp [DenK]
  | k :: ks, d :: ds, xs, h => by
    simp only [Dens] at h
    obtain ⟨v, r, e, q, t⟩ := h
    subst e
    exact ⟨v, _, rfl, q, denK_zip t⟩
theorem merge_new : ∀ {more acc : List (Key × V)}, ((acc ++ more).map (·.1)).Nodup → mergeK acc more = acc ++ more
  | [], acc, _ => by simp [mergeK]
  | kv :: more, acc, h => by
    have h1 : valV acc kv.1 = none := by
      unfold valV
      rw [Option.map_eq_none_iff, List.find?_eq_none]
      intro x hx hd
      have hd := of_decide_eq_true hd
      rw [List.map_append, List.map_cons] at h
      exact (List.nodup_append.mp h).2.2 x.1 (List.mem_map.mpr ⟨x, hx, rfl⟩) kv.1 (List.mem_cons_self) hd
    have h2 : putK acc kv.1 kv.2 = acc ++ [kv] := putK_new kv.2 h1
    show mergeK (putK acc kv.1 kv.2) more = _
    rw [h2, merge_new (by rw [List.append_assoc]; exact h), List.append_assoc]
    rfl
theorem zip_kV : ∀ (ks : List Str) (xs : List V), (ks.map V.str).zip xs = (((ks.map Sum.inr : List Key).zip xs).map fun kv => (kV kv.1, kv.2))
  | [], xs => rfl
  | z :: ks, [] => rfl
  | z :: ks, x :: xs => by simp only [List.map_cons, List.zip_cons_cons, zip_kV ks xs]; rfl
def eDisp (ks : List Str) (fs : List Ex) : Ex := fun env => bnd (evs fs env) fun ds s => .ok (.obj s.length) (s ++ [.dic ((ks.map Sum.inr).zip ds)])
theorem es_disp {ks : List Str} {kes : List (Option Expr)} (h : PPs X pos kes es (trsOf (wd J X) W ks fs)) (hk : (ks.all sok && decide ks.Nodup && decide (ks.length = fs.length) && decide (ks.length ≤ 15)) = true := by decide +kernel)
    (hall : kes.all (·.isSome) = true := by rfl) (hl : kes.length = es.length := by rfl) (h0 : kes ≠ [] := by simp) (h15 : kes.length ≤ 15 := by decide) : ES J X W (.Dict kes es pos) (eDisp ks fs) :=
  PE.imp (pe_disp h hall hl h0 h15) fun σ H Q ⟨env, ρ, F, s, g, l, k⟩ p hp => by
    simp only [Bool.and_eq_true, decide_eq_true_eq] at hk
    obtain ⟨⟨⟨k1, k2⟩, k3⟩, k4⟩ := hk
    have g0 := g.skip (.dK []) hp
    have l0 : LE ρ F H ρ F (upd H p (.dK [])) := LE.skip hp
    have np : p ∉ ρ := fun z => g.new_ne hp z rfl
    have fin : APo (wd J X) ρ F (upd H p (.dK [])) (fun xs H2 => H2 p = some (.dK []) ∧ ks.length = xs.length ∧ Q (.ref p) (upd H2 p (.dK ((ks.map Sum.inr).zip xs)))) (fun c H' => W c none σ H') (evs fs env s) := by
      unfold eDisp bnd at k
      cases e : evs fs env s with
      | ok ds s1 =>
        rw [e] at k
        intro ρ1 F1 H1 xs l1 g1 r1
        have hp1 : H1 p = some (.dK []) := l1.keep _ _ upd_same np
        have np1 : p ∉ ρ1 := fun z => by
          rcases l1.fr p z with z | z
          · exact np z
          · rw [upd_same] at z; cases z
        have hF1 : F1 p = none := by
          cases e : F1 p with
          | none => rfl
          | some o =>
            rcases l1.ff p o e with ⟨u, z⟩ | z | ⟨_, xs, z⟩
            · rw [g.fnone hp] at z; cases z
            · rw [upd_same] at z; cases z
            · rw [upd_same] at z; cases z
        have hlen : ds.length = fs.length := evs_len e
        refine ⟨hp1, by rw [k3, ← hlen, r1.length], k (ρ1 ++ [p]) F1 _ (.ref p) (LE.newAt (l0.trans l1) hp) (g1.newAt np1 hF1 ?_) ?_⟩
        · refine ⟨⟨?_, fun kv hkv => ?_⟩, _, upd_same, DenK.monoD LD.push (denK_zip r1)⟩
          · rw [List.length_zip, List.length_map, sizeLine_eq]; omega
          · obtain ⟨kk, dd⟩ := kv
            have := (List.of_mem_zip hkv).1
            obtain ⟨z, hz, e⟩ := List.mem_map.mp this
            subst e
            exact List.all_eq_true.mp k1 z hz
        · simp only [Den]
          exact ⟨p, rfl, by rw [← g1.len]; simp⟩
      | exc c s1 =>
        rw [e] at k
        exact fun ρ1 F1 H1 C l1 g1 r1 => k ρ1 F1 H1 C (l0.trans l1) g1 r1
      | bad => rw [e] at k; exact k
    refine tPairs_mono (pairs_of k3 g0 (l.mono l0) fin) fun ps H2 ⟨xs, e, q1, ql, q2⟩ => ⟨q1, (ks.map Sum.inr).zip xs, ?_, ?_, ?_⟩
    · rw [e]
      exact zip_kV ks xs
    · rw [List.length_zip, List.length_map]; omega
    · rw [merge_new]
      · exact q2
      · rw [List.nil_append, List.map_fst_zip (by rw [List.length_map]; omega)]
        exact nodup_inr k2
end
end Pd
namespace Pd
open PySem L2
section
variable {J : Cn} {X : Cx} {W : WX} {a b c e e2 : Expr} {es : List Expr} {fa fb fc fe : Ex} {fs : List Ex} {pos p p2 : Pos}
/-! ### text * n, tuple * n -/
def repS (x : Str) (n : Nat) : Str := ⟨(List.replicate n x.cps).foldl (· ++ ·) #[]⟩
theorem foldl_app : ∀ (l : List (Array Nat)) (b : Array Nat), (l.foldl (· ++ ·) b).toList = b.toList ++ (l.map (·.toList)).flatten
  | [], b => by simp
  | a :: l, b => by
    rw [List.foldl_cons, foldl_app l, List.map_cons, List.flatten_cons, Array.toList_append, List.append_assoc]
theorem repS_codes (x : Str) (n : Nat) : (repS x n).cps.toList = (List.replicate n x.cps.toList).flatten := by
  unfold repS
  rw [foldl_app, List.map_replicate]
  rfl
theorem repS_len (x : Str) (n : Nat) : (repS x n).length = n * x.length := by
  have h1 : (repS x n).length = (repS x n).cps.toList.length := by rw [Array.length_toList]; rfl
  have h2 : x.length = x.cps.toList.length := by rw [Array.length_toList]; rfl
  rw [h1, repS_codes, List.length_flatten, List.map_replicate, List.sum_replicate_nat, h2]
theorem op_repS : OpR X (binaryOp .Mult) (fun x y H Q => ∃ z k, x = .str z ∧ y = .int k ∧ 2 ≤ k ∧ 0 < z.length ∧ z.length * k.toNat ≤ 1000000 ∧ Q (.str (repS z k.toNat)) H) := by
  intro pins s σ H x y v u Q I rx ry h
  obtain ⟨z, k, rfl, rfl, h1, h2, h3, q⟩ := h
  obtain ⟨t1, rfl⟩ := rx
  obtain ⟨t2, rfl⟩ := ry
  have hk : k ≤ 1000000 := by
    have : 1 * k.toNat ≤ z.length * k.toNat := Nat.mul_le_mul_right _ h2
    omega
  have n1 : ¬ k < 1 := by omega
  have n2 : (k == 1 || z.length == 0) = false := by
    have a1 : (k == 1) = false := by simpa using (by omega : ¬ k = 1)
    have a2 : (z.length == 0) = false := by simpa using (by omega : ¬ z.length = 0)
    rw [a1, a2]; rfl
  refine P.mul_str (by
    rw [decide_eq_false (by omega), decide_eq_false (by omega)]; rfl) (fun _ _ hh => ?_) (fun _ _ => ?_) ?_
  · have : z.length ≤ 1000000 := by
      have : z.length * 1 ≤ z.length * k.toNat := Nat.mul_le_mul_left _ (by omega)
      omega
    have h5 : (1000000 : Int) ≤ (2 ^ 63 - 1) / k := by
      rw [Int.le_ediv_iff_mul_le (by omega)]
      omega
    omega
  · show Builtin.Str.tooLong _ = false
    unfold Builtin.Str.tooLong
    rw [sizeLine_eq]
    simp
    omega
  · rw [if_neg n1, if_neg (by rw [n2]; exact Bool.false_ne_true)]
    refine ⟨?_, .str _, H, I.tok _, ⟨_, rfl⟩, q⟩
    show (repS z k.toNat).length ≤ sizeLine
    rw [repS_len, sizeLine_eq, Nat.mul_comm]
    omega
def dRepS (x y : Dt) (s : Sto) : Out Dt := match x with
  | .str z => match y with
    | .int k => if decide (2 ≤ k ∧ 0 < z.length ∧ z.length * k.toNat ≤ 1000000) = true then .ok (.str (repS z k.toNat)) s else .bad
    | _ => .bad
  | _ => .bad
theorem es_repS (ha : ES J X W a fa) (hb : ES J X W b fb) : ES J X W (.BinOp a .Mult b pos) (eOp dRepS fa fb) :=
  es_op op_repS (fun ρ F s H x y dx dy Q E g rx ry k => by
    cases dx with
    | str z =>
      cases dy with
      | int m =>
        simp only [Den] at rx ry
        simp only [dRepS] at k
        split at k
        · rename_i hz
          have hz := of_decide_eq_true hz
          refine ⟨z, m, rx.1, ry, hz.1, hz.2.1, hz.2.2, k ρ F H _ LE.refl g ?_⟩
          simp only [Den]
          refine ⟨trivial, sok_of (fun c hc => ?_) (by rw [repS_len, Nat.mul_comm]; exact hz.2.2)⟩
          rw [repS_codes, List.mem_flatten] at hc
          obtain ⟨l, hl, hc⟩ := hc
          rw [(List.mem_replicate.mp hl).2] at hc
          exact sok_mem rx.2 hc
        · exact False.elim k
      | _ => exact False.elim k
    | _ => exact False.elim k) ha hb
def dRepT (x y : Dt) (s : Sto) : Out Dt := match x with
  | .tup l => match y with
    | .int k => if decide (2 ≤ k ∧ k ≤ 1000 ∧ 0 < l.length ∧ l.length ≤ 1000) = true then .ok (.tup (List.replicate k.toNat l).flatten) s else .bad
    | _ => .bad
  | _ => .bad
theorem es_repT (ha : ES J X W a fa) (hb : ES J X W b fb) : ES J X W (.BinOp a .Mult b pos) (eOp dRepT fa fb) :=
  es_op op_repT (fun ρ F s H x y dx dy Q E g rx ry k => by
    cases dx with
    | tup l =>
      cases dy with
      | int m =>
        have ry' := ry
        simp only [Den] at ry'
        simp only [dRepT] at k
        split at k
        · rename_i hz
          have hz := of_decide_eq_true hz
          obtain ⟨a, xs, e, q, t, z⟩ := g.sqT rx (l := l) rfl
          have hl := t.length
          have hlen : (List.replicate m.toNat l).flatten.length ≤ sizeLine := by
            rw [List.length_flatten, List.map_replicate, List.sum_replicate_nat, sizeLine_eq]
            have : m.toNat * l.length ≤ 1000 * 1000 := Nat.mul_le_mul (by omega) hz.2.2.2
            omega
          refine ⟨a, m, xs, e, ry', q, fun z => ?_, hz.1, hz.2.1, by omega, fun p hp => new_tup g (t.rep m.toNat) hlen hp k⟩
          rw [z] at hl
          simp at hl
          rw [hl] at hz
          simp at hz
        · exact False.elim k
      | _ => exact False.elim k
    | _ => exact False.elim k) ha hb
/-! ### a list unpacked -/
def gU (is : List Nat) : Tg := fun d env s => match asL s d with
  | some l => setAll is l env
  | none => none
theorem gs_unl {is : List Nat} {k : Nat} (hc : X.calm = true) (h : GSs J X es is) (hn : (assignEach es X.env).length = is.length := by rfl) (hst : (assignEach es X.env).findIdx? (·.1) = none := by rfl) : GS J X (.Tuple es k pos) is (gU is) :=
  PG.imp (pg_unl hc h hn hst) fun v σ H Q ⟨env, ρ, F, s, d, env', g, l, r, e, q⟩ => by
    unfold gU at e
    split at e
    · rename_i ds hd
      obtain ⟨x, xs, e1, q1, t, _⟩ := g.sqL r hd
      exact ⟨x, xs, e1, q1, by rw [← t.length, setAll_len e], env, ρ, F, s, ds, env', g, l, t, e, q⟩
    · cases e
end
end Pd
/-! The order of ints, texts and tuples of them; sorting. -/
namespace Pd
open PySem L2
def ltK : Key → Key → Bool
  | .inl i, .inl j => decide (i < j)
  | .inl _, .inr _ => true
  | .inr _, .inl _ => false
  | .inr x, .inr y => decide (x.cps.toList < y.cps.toList)
theorem str_ext {x y : Str} (h : x.cps.toList = y.cps.toList) : x = y := by
  cases x; cases y
  simp only at h
  congr
  exact Array.toList_inj.mp h
theorem nl_irr (a : List Nat) : ¬ a < a := List.lt_irrefl a
theorem nl_tri (a b : List Nat) : a < b ∨ a = b ∨ b < a := by
  rcases List.le_total a b with h | h
  · by_cases e : a = b
    · exact .inr (.inl e)
    · exact .inl (List.not_le.mp fun z => e (List.le_antisymm h z))
  · by_cases e : a = b
    · exact .inr (.inl e)
    · exact .inr (.inr (List.not_le.mp fun z => e (List.le_antisymm z h)))
theorem ltK_irr (a : Key) : ltK a a = false := by
  cases a with
  | inl i => simp [ltK]
  | inr x => simp [ltK, nl_irr]
theorem ltK_asym {a b : Key} (h : ltK a b = true) : ltK b a = false := by
  cases a <;> cases b <;> simp only [ltK, decide_eq_true_eq, decide_eq_false_iff_not] at h ⊢
  · omega
  · cases h
  · exact fun z => nl_irr _ (List.lt_trans h z)
theorem ltK_tri (a b : Key) : ltK a b = true ∨ a = b ∨ ltK b a = true := by
  cases a <;> cases b <;> simp only [ltK, decide_eq_true_eq, Sum.inl.injEq, Sum.inr.injEq]
  · omega
  · exact .inl trivial
  · exact .inr (.inr trivial)
  · rename_i x y
    rcases nl_tri x.cps.toList y.cps.toList with h | h | h
    · exact .inl h
    · exact .inr (.inl (str_ext h))
    · exact .inr (.inr h)
theorem ltK_trans {a b c : Key} (h : ltK a b = true) (k : ltK b c = true) : ltK a c = true := by
  cases a <;> cases b <;> cases c <;> simp only [ltK, decide_eq_true_eq] at h k ⊢
  · omega
  · cases k
  · cases h
  · cases h
  · cases k
  · exact List.lt_trans h k
theorem ltK_co {a c : Key} (b : Key) (h : ltK a c = true) : ltK a b = true ∨ ltK b c = true := by
  rcases ltK_tri a b with k | k | k
  · exact .inl k
  · rw [k] at h; exact .inr h
  · exact .inr (ltK_trans k h)
def lexK : List Key → List Key → Bool
  | [], [] => false
  | [], _ :: _ => true
  | _ :: _, [] => false
  | a :: as, b :: bs => if a = b then lexK as bs else ltK a b
theorem lexK_asym : ∀ {x y : List Key}, lexK x y = true → lexK y x = false
  | [], [], h => by simp [lexK] at h
  | [], _ :: _, _ => rfl
  | _ :: _, [], h => by simp [lexK] at h
  | a :: as, b :: bs, h => by
    simp only [lexK] at h ⊢
    by_cases e : a = b
    · rw [if_pos e] at h
      rw [if_pos e.symm]
      exact lexK_asym h
    · rw [if_neg e] at h
      rw [if_neg (fun z => e z.symm)]
      exact ltK_asym h
theorem lexK_tri : ∀ x y : List Key, lexK x y = true ∨ x = y ∨ lexK y x = true
  | [], [] => .inr (.inl rfl)
  | [], _ :: _ => .inl rfl
  | _ :: _, [] => .inr (.inr rfl)
  | a :: as, b :: bs => by
    simp only [lexK]
    by_cases e : a = b
    · rw [if_pos e, if_pos e.symm]
      rcases lexK_tri as bs with h | h | h
      · exact .inl h
      · exact .inr (.inl (by rw [e, h]))
      · exact .inr (.inr h)
    · rw [if_neg e, if_neg (fun z => e z.symm)]
      rcases ltK_tri a b with h | h | h
      · exact .inl h
      · exact absurd h e
      · exact .inr (.inr h)
theorem lexK_co : ∀ {x z : List Key} (y : List Key), lexK x z = true → lexK x y = true ∨ lexK y z = true
  | [], [], _, h => by simp [lexK] at h
  | [], _ :: _, [], _ => .inr rfl
  | [], _ :: _, _ :: _, _ => .inl rfl
  | _ :: _, [], _, h => by simp [lexK] at h
  | _ :: _, _ :: _, [], _ => .inr rfl
  | a :: as, c :: cs, b :: bs, h => by
    simp only [lexK] at h ⊢
    by_cases e : a = b
    · rw [if_pos e]
      rw [e] at h
      by_cases e2 : b = c
      · rw [if_pos e2] at h ⊢
        exact lexK_co bs h
      · rw [if_neg e2] at h ⊢
        exact .inr h
    · rw [if_neg e]
      by_cases e2 : b = c
      · rw [if_pos e2]
        by_cases e3 : a = c
        · exact absurd (e3.trans e2.symm) e
        · rw [if_neg e3] at h
          rw [e2]; exact .inl h
      · rw [if_neg e2]
        by_cases e3 : a = c
        · rcases ltK_tri a b with k | k | k
          · exact .inl k
          · exact absurd k e
          · exact .inr (by rw [← e3]; exact k)
        · rw [if_neg e3] at h
          exact ltK_co b h
/-- at most -/
def leKs (x y : List Key) : Bool := !lexK y x
theorem leKs_total (x y : List Key) : leKs x y = true ∨ leKs y x = true := by
  unfold leKs
  cases h : lexK y x with
  | true => exact .inr (by rw [lexK_asym h]; rfl)
  | false => exact .inl rfl
theorem leKs_antisymm {x y : List Key} (h : leKs x y = true) (k : leKs y x = true) : x = y := by
  unfold leKs at h k
  rcases lexK_tri x y with e | e | e
  · rw [e] at k; cases k
  · exact e
  · rw [e] at h; cases h
theorem leKs_trans {x y z : List Key} (h : leKs x y = true) (k : leKs y z = true) : leKs x z = true := by
  unfold leKs at h k ⊢
  cases e : lexK z x with
  | false => rfl
  | true =>
    rcases lexK_co y e with e | e
    · rw [e] at k; cases k
    · rw [e] at h; cases h
/-! sorting by keys -/
section
variable {α : Type} (f : α → List Key)
def insK (a : α) : List α → List α
  | [] => [a]
  | b :: r => if leKs (f a) (f b) = true then a :: b :: r else b :: insK a r
def sortK : List α → List α
  | [] => []
  | a :: r => insK f a (sortK r)
theorem insK_perm (a : α) : ∀ l : List α, (insK f a l).Perm (a :: l)
  | [] => List.Perm.refl _
  | b :: r => by
    unfold insK
    split
    · exact List.Perm.refl _
    · exact ((insK_perm a r).cons b).trans (List.Perm.swap _ _ _)
theorem sortK_perm : ∀ l : List α, (sortK f l).Perm l
  | [] => List.Perm.refl _
  | a :: r => (insK_perm f a _).trans ((sortK_perm r).cons a)
theorem insK_sorted (a : α) : ∀ {l : List α}, l.Pairwise (fun x y => leKs (f x) (f y) = true) → (insK f a l).Pairwise (fun x y => leKs (f x) (f y) = true)
  | [], _ => by simp [insK]
  | b :: r, h => by
    unfold insK
    rw [List.pairwise_cons] at h
    split
    · rename_i hab
      refine List.pairwise_cons.mpr ⟨fun y hy => ?_, List.pairwise_cons.mpr h⟩
      rcases List.mem_cons.mp hy with e | hy
      · rw [e]; exact hab
      · exact leKs_trans hab (h.1 y hy)
    · rename_i hab
      have hba : leKs (f b) (f a) = true := (leKs_total _ _).resolve_left hab
      refine List.pairwise_cons.mpr ⟨fun y hy => ?_, insK_sorted a h.2⟩
      rcases List.mem_cons.mp ((insK_perm f a r).mem_iff.mp hy) with e | hy
      · rw [e]; exact hba
      · exact h.1 y hy
theorem sortK_sorted : ∀ l : List α, (sortK f l).Pairwise (fun x y => leKs (f x) (f y) = true)
  | [] => List.Pairwise.nil
  | a :: r => insK_sorted f a (sortK_sorted r)
theorem sorted_unique : ∀ {l m : List α}, l.Perm m → (∀ a ∈ l, ∀ b ∈ l, f a = f b → a = b) → l.Pairwise (fun x y => leKs (f x) (f y) = true) → m.Pairwise (fun x y => leKs (f x) (f y) = true) → l = m
  | [], m, p, _, _, _ => (List.Perm.nil_eq p)
  | a :: l, [], p, _, _, _ => (List.Perm.symm p).nil_eq.symm
  | a :: l, b :: m, p, hi, h1, h2 => by
    rw [List.pairwise_cons] at h1 h2
    have e : a = b := by
      have ha : a ∈ b :: m := p.mem_iff.mp List.mem_cons_self
      have hb : b ∈ a :: l := p.mem_iff.mpr List.mem_cons_self
      rcases List.mem_cons.mp ha with e | ha
      · exact e
      · rcases List.mem_cons.mp hb with e | hb'
        · exact e.symm
        · exact hi a List.mem_cons_self b hb (leKs_antisymm (h1.1 b hb') (h2.1 a ha))
    subst e
    rw [sorted_unique ((List.perm_cons a).mp p) (fun x hx y hy => hi x (List.mem_cons_of_mem _ hx) y (List.mem_cons_of_mem _ hy)) h1.2 h2.2]
end
/-! what may be sorted -/
inductive Md where
  | i | s | t (sh : List Bool)
deriving DecidableEq
def isI : Key → Bool
  | .inl _ => true
  | .inr _ => false
def keyL : Dt → List Key
  | .int i => [.inl i]
  | .str x => [.inr x]
  | .tup l => (keysL l).getD []
  | _ => []
def okD : Md → Dt → Bool
  | .i, .int _ => true
  | .s, .str _ => true
  | .t sh, .tup l => match keysL l with
    | some ks => decide (ks.map isI = sh) && !sh.isEmpty
    | none => false
  | _, _ => false
def mdD : Dt → Option Md
  | .int _ => some .i
  | .str _ => some .s
  | .tup l => (keysL l).map fun ks => .t (ks.map isI)
  | _ => none
def sortOk : List Dt → Bool
  | [] => true
  | d :: l => match mdD d with
    | some md => (d :: l).all (okD md)
    | none => false
theorem keysL_inj : ∀ {l m : List Dt} {ks : List Key}, keysL l = some ks → keysL m = some ks → l = m
  | [], [], ks, _, _ => rfl
  | [], d :: m, ks, h, k => by
    simp only [keysL, Option.some.injEq] at h k
    subst h
    split at k <;> simp at k
  | d :: l, [], ks, h, k => by
    simp only [keysL, Option.some.injEq] at h k
    subst k
    split at h <;> simp at h
  | d :: l, e :: m, ks, h, k => by
    simp only [keysL] at h k
    split at h
    · rename_i a b h1 h2
      split at k
      · rename_i a' b' h3 h4
        simp only [Option.some.injEq] at h k
        rw [← k] at h
        injection h with e1 e2
        subst e1; subst e2
        have : d = e := by
          cases d <;> simp only [keyD, Option.some.injEq, reduceCtorEq] at h1 <;> cases e <;> simp only [keyD, Option.some.injEq, reduceCtorEq] at h3
          · rw [← h1] at h3; cases h3; rfl
          · rw [← h1] at h3; cases h3
          · rw [← h1] at h3; cases h3
          · rw [← h1] at h3; cases h3; rfl
        rw [this, keysL_inj h2 h4]
      · cases k
    · cases h
theorem okD_inj {md : Md} {a b : Dt} (ha : okD md a = true) (hb : okD md b = true) (e : keyL a = keyL b) : a = b := by
  cases md <;> cases a <;> simp only [okD, Bool.false_eq_true] at ha <;> cases b <;> simp only [okD, Bool.false_eq_true] at hb
  · simp only [keyL, List.cons.injEq, Sum.inl.injEq, and_true] at e; rw [e]
  · simp only [keyL, List.cons.injEq, Sum.inr.injEq, and_true] at e; rw [e]
  · split at ha
    · rename_i ks h1
      split at hb
      · rename_i ks' h2
        simp only [keyL, h1, h2, Option.getD_some] at e
        subst e
        rw [keysL_inj h1 h2]
      · cases hb
    · cases ha
end Pd
/-! sorted(..) in the model, of ints, texts and tuples of them. -/
namespace Pd
open PySem L2 SrtO PyProof.Rows Srt
section
variable {prog : Program} {w : World} {A : Around} {E : Value → Shared → Prop} {s : Shared}
def VKy (h : Heap) : Md → Value → List Key → Prop
  | .i, v, ks => ∃ i t, v = .int i t ∧ ks = [.inl i]
  | .s, v, ks => ∃ x t, v = .str x t ∧ ks = [.inr x]
  | .t sh, v, ks => ∃ a o n its, v = .ref a ∧ h.get? a = some o ∧ o.cls = .type "tuple" ∧ o.data = .seq its n ∧ Vals (ks.map kV) its.toList ∧ ks.map isI = sh ∧ sh ≠ []
def ltv (k : Value → List Key) (v u : Value) : Bool := lexK (k v) (k u)
theorem swoK (k : Value → List Key) : Swo (ltv k) := ⟨fun x y h => lexK_asym h, fun x y z h1 h2 => by
  unfold ltv at h1 h2 ⊢
  cases e : lexK (k z) (k x) with
  | false => rfl
  | true =>
    rcases lexK_co (k y) e with e | e
    · rw [e] at h2; cases h2
    · rw [e] at h1; cases h1⟩
theorem lexK_one (a b : Key) : lexK [a] [b] = ltK a b := by
  simp only [lexK]
  split
  · rename_i h; rw [h, ltK_irr]
  · rfl
theorem katK {KS KS' : List Key} : ∀ (ks ks' : List Key) (its its' : List Value) (i : Nat), Vals (ks.map kV) its → Vals (ks'.map kV) its' → ks.map isI = ks'.map isI → lexK KS KS' = lexK ks ks' →
    PySem.W.KatLex prog w A true false (fun r s' => s' = s ∧ r = lexK KS KS') (its.zip its') i s
  | [], [], its, its', i, r, r', _, e => by
    cases r; cases r'
    exact PySem.W.kat_nil ⟨rfl, by rw [e]; rfl⟩
  | [], _ :: _, _, _, _, _, _, h, _ => by simp at h
  | _ :: _, [], _, _, _, _, _, h, _ => by simp at h
  | a :: ks, b :: ks', its, its', i, r, r', h, e => by
    rw [List.map_cons] at r r'
    cases r with
    | cons ra rt =>
      cases r' with
      | cons rb rt' =>
        rename_i u us u' us'
        simp only [List.map_cons, List.cons.injEq] at h
        rw [List.zip_cons_cons]
        simp only [lexK] at e
        have next : a = b → PySem.W.KatGo prog w A true false (fun r s' => s' = s ∧ r = lexK KS KS') u u' (us.zip us') i true s := fun eab => by
          rw [if_pos eab] at e
          exact PySem.W.kat_yes (katK ks ks' us us' (i + 1) rt rt' h.2 e)
        cases a with
        | inl x =>
          cases b with
          | inr y => simp [isI] at h
          | inl y =>
            obtain ⟨t, rfl⟩ := ra
            obtain ⟨t', rfl⟩ := rb
            refine PySem.W.kat_cons (SeqAt.EqAt.int_int x t y t' prog w _ _ ?_)
            refine PySem.W.kat_go (fun e1 => ?_) (fun e1 => ?_)
            · exact next (by have : x = y := by simpa using e1
                             rw [this])
            · have ne : ¬ x = y := by simpa using e1
              rw [if_neg (fun z => ne (Sum.inl.inj z))] at e
              refine PySem.W.kat_no ?_
              cases i with
              | zero => exact oneLt_int ⟨rfl, by rw [e]; rfl⟩
              | succ i => exact PySem.W.kat_one _ _ (PyProof.Rows.lt_int (show s = s ∧ decide (x < y) = lexK KS KS' from ⟨rfl, by rw [e]; rfl⟩))
        | inr x =>
          cases b with
          | inl y => simp [isI] at h
          | inr y =>
            obtain ⟨t, rfl⟩ := ra
            obtain ⟨t', rfl⟩ := rb
            refine PySem.W.kat_cons (SeqAt.EqAt.str_str x t y t' prog w _ _ ?_)
            refine PySem.W.kat_go (fun e1 => ?_) (fun e1 => ?_)
            · exact next (by have : x = y := by simpa using e1
                             rw [this])
            · have ne : ¬ x = y := by simpa using e1
              rw [if_neg (fun z => ne (Sum.inr.inj z))] at e
              refine PySem.W.kat_no ?_
              cases i with
              | zero => exact PyProof.Rows.oneLt_str ⟨rfl, by rw [e]; rfl⟩
              | succ i => exact PySem.W.kat_one _ _ (PySem.P.lt_str (show s = s ∧ decide (x.cps.toList < y.cps.toList) = lexK KS KS' from ⟨rfl, by rw [e]; rfl⟩))
theorem vky_keep {h h' : Heap} {md : Md} {v : Value} {ks : List Key} (x : VKy h md v ks) (k : ∀ b o, o.cls = .type "tuple" → h.get? b = some o → h'.get? b = some o) : VKy h' md v ks := by
  cases md with
  | i => exact x
  | s => exact x
  | t sh =>
    obtain ⟨a, o, n, its, e, ho, hc, hd, r, q⟩ := x
    exact ⟨a, o, n, its, e, k a o hc ho, hc, hd, r, q⟩
theorem sortableK {a : Addr} {vs : List Value} {md : Md} {k : Value → List Key} (h2 : 2 ≤ vs.length) (hp : ∀ v ∈ vs, VKy s.heap md v (k v)) (ha : ∀ o, s.heap.get? a = some o → o.cls ≠ .type "tuple") : SortableO prog w A s a vs (ltv k) := by
  intro h' keep
  cases md with
  | i =>
    have hI : IntsAre vs (vs.map iv) := ints_iv fun v hv => by
      obtain ⟨i, t, e, _⟩ := hp v hv
      exact ⟨i, t, e⟩
    refine ⟨oneType', fun Q E hq => ?_, fun p q hm hm' => ?_⟩
    · match vs, hI, h2 with
      | v1 :: v2 :: rest, hI, _ =>
        rw [keyKind_ints hI]
        exact wpAny_pure hq
      | [], _, h => exact absurd h (by decide)
      | [v], _, h => exact absurd h (by simp)
    · obtain ⟨x, t, e, e1⟩ := hp _ hm
      obtain ⟨y, u, e', e2⟩ := hp _ hm'
      show wpAny (model prog w) A (keyLt' oneType' p.1 q.1) (fun r s' => s' = _ ∧ r = lexK (k p.1) (k q.1)) (fun _ _ => False) _
      rw [e1, e2, lexK_one, e, e', keyLt'_oneType]
      exact oneLt_int ⟨rfl, rfl⟩
  | s =>
    obtain ⟨ss, hS⟩ : ∃ ss, StrsAre vs ss := by
      clear keep ha h2
      induction vs with
      | nil => exact ⟨[], .nil⟩
      | cons v vs ih =>
        obtain ⟨ss, hs⟩ := ih fun u hu => hp u (List.mem_cons_of_mem _ hu)
        obtain ⟨x, t, e, _⟩ := hp v List.mem_cons_self
        exact ⟨x :: ss, by rw [e]; exact .cons x t hs⟩
    refine ⟨oneType', fun Q E hq => ?_, fun p q hm hm' => ?_⟩
    · match vs, hS, h2 with
      | v1 :: v2 :: rest, hI, _ =>
        rw [keyKind_strs hI]
        exact wpAny_pure hq
      | [], _, h => exact absurd h (by decide)
      | [v], _, h => exact absurd h (by simp)
    · obtain ⟨x, t, e, e1⟩ := hp _ hm
      obtain ⟨y, u, e', e2⟩ := hp _ hm'
      show wpAny (model prog w) A (keyLt' oneType' p.1 q.1) (fun r s' => s' = _ ∧ r = lexK (k p.1) (k q.1)) (fun _ _ => False) _
      rw [e1, e2, lexK_one, e, e', keyLt'_oneType]
      exact PyProof.Rows.oneLt_str ⟨rfl, rfl⟩
  | t sh =>
    have hp' : ∀ v ∈ vs, VKy h' (.t sh) v (k v) := fun v hm => vky_keep (hp v hm) fun b o c e => keep b o (fun z => by subst z; exact ha o e c) e
    obtain ⟨T, hT⟩ : ∃ T : Bool, sh.head? = some T := by
      match vs, h2, hp' with
      | v :: _, _, hp' =>
        obtain ⟨_, _, _, _, _, _, _, _, _, _, hn⟩ := hp' v List.mem_cons_self
        cases sh with
        | nil => exact absurd rfl hn
        | cons b _ => exact ⟨b, rfl⟩
      | [], h, _ => exact absurd h (by decide)
    obtain ⟨fs, h1, h3⟩ : ∃ fs, PySem.W.KatTups h' vs fs ∧ fs.length = vs.length ∧ ∀ f ∈ fs, (T = true ∧ ∃ x t, f = Value.int x t) ∨ (T = false ∧ ∃ x t, f = Value.str x t) := by
      clear keep ha h2 hp
      induction vs with
      | nil => exact ⟨[], PySem.W.KatTups.nil, rfl, fun f hf => nomatch hf⟩
      | cons v vs ih =>
        obtain ⟨fs, q1, q2, q3⟩ := ih fun u hu => hp' u (List.mem_cons_of_mem _ hu)
        obtain ⟨a, o, n, its, e, ho, hc, hd, r, hsh, hn⟩ := hp' v List.mem_cons_self
        cases hk : k v with
        | nil => rw [hk] at hsh; exact absurd hsh.symm hn
        | cons key rest =>
          rw [hk, List.map_cons] at r
          obtain ⟨il, hil⟩ : ∃ il, its.toList = il := ⟨_, rfl⟩
          rw [hil] at r
          cases r with
          | cons ra rt =>
            rename_i u us
            have hu : its[0]? = some u := by rw [← Array.getElem?_toList, hil]; rfl
            refine ⟨u :: fs, by rw [e]; exact PySem.W.KatTups.cons ho hc hd hu q1, by simp [q2], fun f hf => ?_⟩
            rcases List.mem_cons.mp hf with ef | hf
            · subst ef
              have ht : isI key = T := by
                rw [← hsh, hk, List.map_cons] at hT
                exact Option.some.inj hT
              cases key with
              | inl x => obtain ⟨t, rfl⟩ := ra; exact .inl ⟨ht.symm, x, t, rfl⟩
              | inr x => obtain ⟨t, rfl⟩ := ra; exact .inr ⟨ht.symm, x, t, rfl⟩
            · exact q3 f hf
    refine ⟨tuples' true, fun Q E hq => ?_, fun p q hm hm' => ?_⟩
    · cases T with
      | true =>
        refine PySem.W.kat_kind (T := .type "int") h1 (by omega) (fun f hm => ?_) (by rfl) ?_
        · rcases h3.2 f hm with ⟨_, x, t, rfl⟩ | ⟨e, _⟩
          · exact PySem.W.Looks.now
          · cases e
        · have e : (Value.type "int" != Value.type "tuple") = true := by first | decide +kernel | rfl | decide
          rw [e]
          exact hq
      | false =>
        refine PySem.W.kat_kind (T := .type "str") h1 (by omega) (fun f hm => ?_) (by rfl) ?_
        · rcases h3.2 f hm with ⟨e, _⟩ | ⟨_, x, t, rfl⟩
          · cases e
          · exact PySem.W.Looks.now
        · have e : (Value.type "str" != Value.type "tuple") = true := by first | decide +kernel | rfl | decide
          rw [e]
          exact hq
    · obtain ⟨a1, o1, n1, its1, e1, ho1, hc1, hd1, r1, hs1, _⟩ := hp' _ hm
      obtain ⟨a2, o2, n2, its2, e2, ho2, hc2, hd2, r2, hs2, _⟩ := hp' _ hm'
      show wpAny (model prog w) A (keyLt' (tuples' true) p.1 q.1) (fun r s' => s' = _ ∧ r = lexK (k p.1) (k q.1)) (fun _ _ => False) _
      have hsz : its1.size = its2.size := by
        have l1 : (k p.1).length = its1.size := by simpa using r1.length
        have l2 : (k q.1).length = its2.size := by simpa using r2.length
        have l3 : (k p.1).length = (k q.1).length := by simpa using congrArg List.length (hs1.trans hs2.symm)
        omega
      generalize hK1 : k p.1 = K1 at *
      generalize hK2 : k q.1 = K2 at *
      rw [e1, e2]
      refine PySem.W.kat_lt (s := { s with heap := h' }) ho1 hd1 ho2 hd2 ?_
      rw [hsz, decide_eq_false (Nat.lt_irrefl _)]
      exact katK K1 K2 its1.toList its2.toList 0 r1 r2 (hs1.trans hs2.symm) rfl
end
end Pd
namespace Pd
open PySem L2 SrtO
open PyProof.Rows (kind_sorted plain_sorted entry_sorted args_sorted1 slot_list_sort entry_list_sort args_list_sort sortedHeap_at sortedHeap_old collect_list size_push' seqObj)
def HKy (H : Hp) : Md → V → List Key → Prop
  | .i, x, ks => ∃ i, x = .int i ∧ ks = [.inl i]
  | .s, x, ks => ∃ z, x = .str z ∧ ks = [.inr z]
  | .t sh, x, ks => ∃ a, x = .ref a ∧ H a = some (.tup (ks.map kV)) ∧ ks.map isI = sh ∧ sh ≠ []
def bV : Value → V
  | .int i _ => .int i
  | .str x _ => .str x
  | .ref a => .ref a
  | _ => .non
section
variable {X : Cx} {pins : List (Addr × Obj)} {σ : St} {H : Hp} {s : Shared}
theorem hky_back {md : Md} {x : V} {ks : List Key} {v : Value} (h : HKy H md x ks) (r : RelV x v) : bV v = x ∧ RelV (bV v) v := by
  cases md with
  | i => obtain ⟨i, rfl, _⟩ := h; obtain ⟨t, rfl⟩ := r; exact ⟨rfl, t, rfl⟩
  | s => obtain ⟨i, rfl, _⟩ := h; obtain ⟨t, rfl⟩ := r; exact ⟨rfl, t, rfl⟩
  | t sh => obtain ⟨a, rfl, _⟩ := h; cases r; exact ⟨rfl, rfl⟩
theorem hky_val (I : Inv X pins σ H s) {md : Md} {x : V} {ks : List Key} {v : Value} (h : HKy H md x ks) (r : RelV x v) : VKy s.heap md v ks := by
  cases md with
  | i => obtain ⟨i, rfl, e⟩ := h; obtain ⟨t, rfl⟩ := r; exact ⟨i, t, rfl, e⟩
  | s => obtain ⟨i, rfl, e⟩ := h; obtain ⟨t, rfl⟩ := r; exact ⟨i, t, rfl, e⟩
  | t sh =>
    obtain ⟨a, rfl, ha, e⟩ := h
    cases r
    obtain ⟨_, its, r2, o, ho, hc, n, hd⟩ := I.hok _ _ ha
    exact ⟨a, o, n, its.toArray, rfl, ho, hc, hd, by simpa using r2, e⟩
theorem vals_mem : ∀ {xs : List V} {its : List Value}, Vals xs its → ∀ v ∈ its, ∃ x ∈ xs, RelV x v
  | _, _, .cons h t, v, hv => by
    rcases List.mem_cons.mp hv with e | hv
    · subst e; exact ⟨_, List.mem_cons_self, h⟩
    · obtain ⟨x, hx, r⟩ := vals_mem t v hv
      exact ⟨x, List.mem_cons_of_mem _ hx, r⟩
theorem vals_bV {md : Md} {k : V → List Key} : ∀ {xs : List V} {its : List Value}, Vals xs its → (∀ x ∈ xs, HKy H md x (k x)) → its.map bV = xs
  | _, _, .nil, _ => rfl
  | _, _, .cons h t, hk => by
    rw [List.map_cons, (hky_back (hk _ List.mem_cons_self) h).1, vals_bV t fun x hx => hk x (List.mem_cons_of_mem _ hx)]
theorem vals_self : ∀ {its : List Value}, (∀ v ∈ its, RelV (bV v) v) → Vals (its.map bV) its
  | [], _ => .nil
  | v :: its, h => .cons (h v List.mem_cons_self) (vals_self fun u hu => h u (List.mem_cons_of_mem _ hu))
/-- items that are collected, sorted into a new list -/
def SortQ (H : Hp) (xs : List V) (k : V → List Key) (Q : VK) : Prop := ∀ ys p, ys.Pairwise (fun x y => leKs (k x) (k y) = true) → ys.Perm xs → H p = none → Q (.ref p) (upd H p (.lst ys))
theorem sort_tail {A : Around} {E : Value → Shared → Prop} {r : Addr} {xs : List V} {md : Md} {k : V → List Key} {Q : VK} (I : Inv X pins σ H s) (hk : ∀ x ∈ xs, HKy H md x (k x)) (hz0 : xs.length ≤ sizeLine) (q : SortQ H xs k Q)
    (hcol : ∀ (R : List Value → Shared → Prop) (E : Value → Shared → Prop), (∀ (s1 : Shared) (xs' : List V) (its : List Value), Inv X pins σ H s1 → xs'.Perm xs → Vals xs' its → R its s1) → wpAny (model X.prog X.w) A.in1 (collect (.ref r)) R E s) :
    wpAny (model X.prog X.w) A (call (.builtin "sorted") [.ref r]) (fun v s' => ∃ x H', Inv X pins σ H' s' ∧ RelV x v ∧ Q x H') E s := by
  refine Calls.call_function_entry kind_sorted plain_sorted entry_sorted (args_sorted1 _) ?_
  unfold Builtin.«sorted»
  refine wpAny_bind (m := checkCount "sorted" 1 1 _) (wpAny_pure ?_)
  refine wpAny_bind (hcol _ _ fun s1 xs' its I1 pm rv => ?_)
  have hz : its.length ≤ sizeLine := by rw [← rv.length, pm.length_eq]; exact hz0
  have hk : ∀ x ∈ xs', HKy H md x (k x) := fun x hx => hk x (pm.mem_iff.mp hx)
  refine wpAny_bind (wpAny_newList ?_ hz)
  have hoL : (s1.heap.push (seqObj "list" its.toArray 0)).get? s1.heap.objs.size = some (seqObj "list" its.toArray 0) := Heap.get?_push_size _ rfl
  show wpAny _ _ _ _ _ { s1 with heap := s1.heap.push (seqObj "list" its.toArray 0) }
  have I2 : Inv X pins σ H { s1 with heap := s1.heap.push (seqObj "list" its.toArray 0) } := I1.kept fun b u e => Heap.get?_push_of_some _ e
  refine wpAny_bind (wpAny_holding (wpAny_call_entry slot_list_sort ⟨_, hoL, rfl⟩ entry_list_sort
    (list_sort_ord (swoK fun u => k (bV u)) (s := { s1 with heap := s1.heap.push (seqObj "list" its.toArray 0) }) hoL hz (fun h2 => sortableK (md := md) h2 (fun v hv => ?_) (fun o ho hc => ?_)) fun out hs hb => ⟨_, rfl, ?_⟩) (args_list_sort _)))
  · obtain ⟨x, hx, r⟩ := vals_mem rv v hv
    have := hky_val I2 (hk x hx) r
    rw [(hky_back (hk x hx) r).1]
    exact this
  · rw [hoL] at ho
    cases ho
    simp [seqObj] at hc
  · obtain ⟨e', he'⟩ := sortedHeap_at (vs := its) (out := out.toArray) hoL
    have hrel : ∀ u ∈ out, RelV (bV u) u := fun u hu => by
      obtain ⟨x, hx, r⟩ := vals_mem rv u (hb.perm.mem_iff.mp hu)
      exact (hky_back (hk x hx) r).2
    have hperm : (out.map bV).Perm xs := by
      have := hb.perm.map bV
      rw [vals_bV rv hk] at this
      exact this.trans pm
    have hlen : (out.map bV).length ≤ sizeLine := by
      rw [List.length_map, hb.perm.length_eq]
      exact hz
    refine wpAny_pure ⟨_, rfl, .ref s1.heap.objs.size, upd H s1.heap.objs.size (.lst (out.map bV)), I1.laid (t' := s1.toks) (fun b u e => by
        have hb' : b < s1.heap.objs.size := Heap.lt_size e
        rw [sortedHeap_old (Nat.ne_of_lt hb') (by rw [size_push']; exact Nat.lt_succ_of_lt hb')]
        exact Heap.get?_push_of_some _ e) (Nat.le_refl _)
      (show ObjOk X.prog X.w _ _ _ (.lst (out.map bV)) from ⟨hlen, out, e', vals_self hrel, he'⟩), rfl, q _ _ ?_ hperm (I1.hok.fresh (Nat.le_refl _))⟩
    · refine List.pairwise_map.mpr (hs.imp fun {x y} h => ?_)
      unfold leKs
      unfold ltv at h
      rw [h]
      rfl
/-- sorted(l), l a list -/
def rSortedM (K : PySem.W.Frag) : List V → Hp → VK → Prop := fun vs H Q => ∃ (a : Addr) (xs : List V) (md : Md) (k : V → List Key), vs = [V.ref a] ∧ SqL K H a xs ∧ (∀ x ∈ xs, HKy H md x (k x)) ∧ SortQ H xs k Q
theorem cr_sortedM : CallR X (.builtin "sorted") (rSortedM X.K) := by
  intro pins s σ H vs us Q I r h
  obtain ⟨a, xs, md, k, rfl, hs, hk, q⟩ := h
  obtain ⟨its, rv, hl, hz⟩ := I.list hs
  obtain ⟨u, rfl, ru⟩ := vals1 r
  obtain rfl : u = Value.ref a := ru
  refine sort_tail I hk hz q fun R E hR => ?_
  refine collect_list hl.isList ?_ (by rw [← rv.length]; exact hz)
  exact hR _ xs _ (I.kept fun b o e => by
    rw [Heap.get?_update_ne _ _ _ _ (Nat.ne_of_lt (Heap.lt_size e))]
    exact Heap.get?_push_of_some _ e) (List.Perm.refl _) rv
/-! ### d.keys() as a value -/
def KvO (v d : Addr) : HO := .ext fun h => PySem.W.KdlKeysView h v d
def tKeysV (td : TE) : TE := fun σ H Q => td σ H fun x H1 => ∃ d, x = .ref d ∧ IsD H1 d ∧ ∀ p, H1 p = none → Q (.ref p) (upd H1 p (KvO p d))
theorem pe_keysV {e : Expr} {td : TE} {apos cpos : Pos} (he : PE X e td) (hbase : attributeBase e "keys" X.env (eval e X.env) = eval e X.env := by rfl) (hline : (apos.endLine == cpos.line) = true := by rfl) : PE X (.Call (.Attribute e "keys" apos) [] [] cpos) (tKeysV td) := by
  refine ⟨fun pins s σ H Q I h => ?_⟩
  refine wpAny_Call_method (T := "dict") (id := "dict.keys") hbase rfl hline PySem.F.plainAttrs_dict PySem.F.slot_dict_keys PySem.F.type_dict_keys (thn (he.run pins s σ H _ I h) fun u s1 ⟨x, H1, I1, rx, d, ex, hd, q⟩ => ?_)
  subst ex
  obtain rfl : u = Value.ref d := rx
  obtain ⟨t1, t2, lo⟩ := isD_at I1 hd
  refine ⟨t1, t2, ?_⟩
  have raw : ∃ es ep, s1.heap.DictRaw d es ep := by
    rcases hd with ⟨kvs, hd⟩ | ⟨kvs, hd⟩
    · obtain ⟨z, lo, vs, rel, dd⟩ := dk_rd I1.hok hd
      obtain ⟨o, es, ep, ho, hx, hdt, _⟩ := dd
      exact ⟨es, ep, o, ho, hx, hdt⟩
    · obtain ⟨z, hs, ks, pr, o, es, ep, ho, hx, hdt, he, hn⟩ := (show ObjOk X.prog X.w H1 s1.heap d (.dT kvs) from hd.ok I1.hok)
      exact ⟨es, ep, o, ho, hx, hdt⟩
  show wpAny _ _ (callWith cpos (.builtin "dict.keys") [.ref d] [] []) _ X.xe s1
  refine method_meetsIn PySem.F.slot_dict_keys PySem.F.entry_dict_keys rfl (PySem.evalArgs_none ⟨rfl, t1, PySem.F.args_dict_keys_1 _, _, PySem.meets_dict_keys_raw d lo, raw, ?_⟩)
  refine ⟨.ref s1.heap.objs.size, upd H1 s1.heap.objs.size (KvO s1.heap.objs.size d), I1.laid (t' := s1.toks) (fun b u e => Heap.get?_push_of_some _ e) (Nat.le_refl _) ?_, rfl, q _ (I1.hok.fresh (Nat.le_refl _))⟩
  exact ⟨⟨_, Heap.get?_push_size _ rfl, rfl, rfl⟩, ⟨_, Heap.get?_push_size _ rfl⟩, fun h1 h2 ⟨o, ho, x⟩ k => ⟨o, k o ho, x⟩⟩
/-- the view of a dict with any keys, walked -/
theorem kdl_rawV {prog : Program} {w : World} {o : Obj} {es : Array DictEntry} {ep : Nat} {r d : Addr} (hx : o.ExactDict) (hd : o.data = .dict es ep) :
    PySem.W.KdlSrc prog w "dict_keys" r d es.size (fun i v => ∃ en : DictEntry, es[i]? = some en ∧ v = en.key) (fun h => PySem.W.KdlKeysView h r d ∧ h.get? d = some o) where
  type := fun _ hm => hm.1.typeIs
  there := fun _ hm => ⟨let ⟨_, ho, _⟩ := hm.1; Heap.lt_size ho, Heap.lt_size hm.2⟩
  keep := fun _ _ hm hk => ⟨let ⟨o, ho, x⟩ := hm.1; ⟨o, hk r (.inl rfl) o ho, x⟩, hk d (.inr rfl) _ hm.2⟩
  notList := by decide
  notTuple := by decide
  hint := fun _ _ s _ hm hq => PySem.W.kdl_hint_keys (s := s) hm.1.typeIs hq
  iter := fun _ s hh hm => ⟨_, _, (fun _ _ hq => PySem.wpAny_pyIter_keys_raw hm.1 ⟨o, hm.2, hx, hd⟩ hq), walks_raw hh _ d (Nat.ne_of_lt (Heap.lt_size hm.2)) hd, ⟨⟨_, Heap.get?_push_size _ rfl, rfl, rfl⟩, Heap.get?_push_of_some _ hm.2⟩⟩
theorem kv_get {v d : Addr} (I : Inv X pins σ H s) (hv : H v = some (KvO v d)) : PySem.W.KdlKeysView s.heap v d := (I.hok v _ hv).1
theorem ents_keys {prog : Program} {w : World} {es : Array DictEntry} {ks : List (List Key × Addr × Value)} {acc : Array Value} (he : es.toList = ks.map (entryOfKey (tupleKind (mixKind prog w)))) (it : ItemsOf (fun i v => ∃ en : DictEntry, es[i]? = some en ∧ v = en.key) acc es.size) : acc.toList = (ks.map fun x => x.2.1).map Value.ref := by
  have l1 : es.size = ks.length := size_of_entries he
  have ea : acc.toList = ks.map fun x => Value.ref x.2.1 := by
    have hl : acc.toList.length = ks.length := by rw [Array.length_toList, it.1]; exact l1
    apply List.ext_getElem?
    intro j
    rw [List.getElem?_map]
    cases hj : acc.toList[j]? with
    | none =>
      have h1 := List.getElem?_eq_none_iff.mp hj
      rw [List.getElem?_eq_none (by omega)]
      all_goals rfl
    | some v =>
      obtain ⟨en, hen, hv⟩ := it.2 j v (by rw [← Array.getElem?_toList]; exact hj)
      have qe := entry_at he j
      rw [hen] at qe
      cases hb : ks[j]? with
      | none =>
        rw [hb] at qe
        exact nomatch (show some en = none from qe)
      | some b =>
        rw [hb] at qe
        have e2 : en = entryOfKey (tupleKind (mixKind prog w)) b := Option.some.inj qe
        rw [hv, e2]
        all_goals rfl
  rw [ea, List.map_map]
  all_goals rfl
/-- list(d.keys()) -/
def rListV : List V → Hp → VK → Prop := fun xs H Q => ∃ v d, xs = [V.ref v] ∧ H v = some (KvO v d) ∧
  ((∃ kvs, Rd H d (.dK kvs) ∧ ∀ p, H p = none → Q (.ref p) (upd H p (.lst (kvs.map fun kv => kV kv.1)))) ∨ ∃ kvs, Rd H d (.dT kvs) ∧ ∀ p bs, H p = none → IsKeys H kvs bs → Q (.ref p) (upd H p (.lst (bs.map V.ref))))
theorem cr_listV (hc : X.calm = true) : CallR X (.type "list") rListV := by
  intro pins s σ H vs us Q I r h
  obtain ⟨v, d, rfl, hv, h⟩ := h
  obtain ⟨u, rfl, ru⟩ := vals1 r
  obtain rfl : u = Value.ref v := ru
  have hw := kv_get I hv
  rcases h with ⟨kvs, hd, q⟩ | ⟨kvs, hd, q⟩
  · obtain ⟨z, lo, vs, rel, dd⟩ := dk_rd I.hok hd
    obtain ⟨ep, hat⟩ := dd.dictAt
    have ek : (kvs.map fun kv => kV kv.1) = vs.map fun p => kV p.1 := by
      have e := congrArg (List.map kV) rel.keys
      rw [List.map_map, List.map_map] at e
      exact e
    refine PySem.W.kdl_call (PySem.W.kdl_keys (knd := mixKind X.prog X.w) (kvs := vs) (ep := ep)) (I.ok.hd hc) ⟨hw, hat⟩ (by rw [← rel.length]; exact z) fun h' tk acc c' hk hD hacc => ?_
    have hv : Vals (vs.map fun p => kV p.1) acc.toList := keys_at (by rw [Array.length_toList]; exact hacc.1) fun j v e => hacc.2 j v (by rw [← Array.getElem?_toList]; exact e)
    exact ⟨.ref s.heap.objs.size, upd H s.heap.objs.size (.lst (kvs.map fun kv => kV kv.1)), I.laid (t' := tk) hk (Nat.le_refl _)
      (show ObjOk X.prog X.w _ _ _ (.lst (kvs.map fun kv => kV kv.1)) from ⟨by rw [List.length_map]; exact z, acc.toList, c', by rw [ek]; exact hv, by rw [Array.toArray_toList]; exact hD⟩), rfl, q _ (I.hok.fresh (Nat.le_refl _))⟩
  · obtain ⟨z, hs, ks, pr, o, es, ep, ho, hx, hdt, he, hn⟩ := (show ObjOk X.prog X.w H s.heap d (.dT kvs) from hd.ok I.hok)
    have l1 : es.size = ks.length := size_of_entries he
    have l2 : kvs.length = ks.length := Paired.length pr
    refine PySem.W.kdl_call (kdl_rawV hx hdt) (I.ok.hd hc) ⟨hw, ho⟩ (by omega) fun h' tk acc' c' kp e it => ?_
    have eb := ents_keys he it
    have rv : Vals ((ks.map fun x => x.2.1).map V.ref) acc'.toList := by rw [eb]; exact vals_refs _
    have hz : ((ks.map fun x => x.2.1).map V.ref).length ≤ sizeLine := by rw [List.length_map, List.length_map]; omega
    refine ⟨.ref s.heap.objs.size, _, I.laid (t' := tk) (o := .lst ((ks.map fun x => x.2.1).map V.ref)) kp (Nat.le_refl _) ?_, rfl, q _ _ (I.hok.fresh (Nat.le_refl _)) (isKeys_of pr)⟩
    exact ⟨hz, acc'.toList, c', rv, by rw [Array.toArray_toList]; exact e⟩
/-- sorted(d.keys()) -/
def rSortedV : List V → Hp → VK → Prop := fun xs H Q => ∃ v d, xs = [V.ref v] ∧ H v = some (KvO v d) ∧
  ((∃ kvs md k, Rd H d (.dK kvs) ∧ (∀ x ∈ kvs.map fun kv => kV kv.1, HKy H md x (k x)) ∧ SortQ H (kvs.map fun kv => kV kv.1) k Q) ∨
    ∃ kvs, Rd H d (.dT kvs) ∧ ∀ bs, IsKeys H kvs bs → ∃ md k, (∀ x ∈ bs.map V.ref, HKy H md x (k x)) ∧ SortQ H (bs.map V.ref) k Q)
theorem cr_sortedV (hc : X.calm = true) : CallR X (.builtin "sorted") rSortedV := by
  intro pins s σ H vs us Q I r h
  obtain ⟨v, d, rfl, hv, h⟩ := h
  obtain ⟨u, rfl, ru⟩ := vals1 r
  obtain rfl : u = Value.ref v := ru
  have hw := kv_get I hv
  rcases h with ⟨kvs, md, k, hd, hk, q⟩ | ⟨kvs, hd, q⟩
  · obtain ⟨z, lo, vs, rel, dd⟩ := dk_rd I.hok hd
    obtain ⟨ep, hat⟩ := dd.dictAt
    have ek : (kvs.map fun kv => kV kv.1) = vs.map fun p => kV p.1 := by
      have e := congrArg (List.map kV) rel.keys
      rw [List.map_map, List.map_map] at e
      exact e
    refine sort_tail I hk (by rw [List.length_map]; exact z) q fun R E hR => ?_
    refine PySem.W.kdu_collect (PySem.W.kdl_keys (knd := mixKind X.prog X.w) (kvs := vs) (ep := ep)) (I.ok.hd hc) ⟨hw, hat⟩ (by rw [← rel.length]; exact z) fun h' tk acc hk hacc => ?_
    have hv : Vals (vs.map fun p => kV p.1) acc.toList := keys_at (by rw [Array.length_toList]; exact hacc.1) fun j v e => hacc.2 j v (by rw [← Array.getElem?_toList]; exact e)
    exact hR _ _ _ (I.kept hk) (List.Perm.refl _) (by rw [ek]; exact hv)
  · obtain ⟨z, hs, ks, pr, o, es, ep, ho, hx, hdt, he, hn⟩ := (show ObjOk X.prog X.w H s.heap d (.dT kvs) from hd.ok I.hok)
    have l1 : es.size = ks.length := size_of_entries he
    have l2 : kvs.length = ks.length := Paired.length pr
    obtain ⟨md, k, hk, q⟩ := q _ (isKeys_of pr)
    refine sort_tail I hk (by rw [List.length_map, List.length_map]; omega) q fun R E hR => ?_
    refine PySem.W.kdu_collect (kdl_rawV hx hdt) (I.ok.hd hc) ⟨hw, ho⟩ (by omega) fun h' tk acc' kp it => ?_
    have eb := ents_keys he it
    have rv : Vals ((ks.map fun x => x.2.1).map V.ref) acc'.toList := by rw [eb]; exact vals_refs _
    exact hR _ _ _ (I.kept kp) (List.Perm.refl _) rv
end
end Pd
namespace Pd
open PySem L2
/-! ### sorted, by meanings -/
def kB : V → Key
  | .int i => .inl i
  | .str x => .inr x
  | _ => .inl 0
theorem kB_kV : ∀ ks : List Key, (ks.map kV).map kB = ks
  | [] => rfl
  | k :: ks => by rw [List.map_cons, List.map_cons, kB_kV ks]; cases k <;> rfl
def vKs (H : Hp) : V → List Key
  | .int i => [.inl i]
  | .str x => [.inr x]
  | .ref a => match H a with
    | some (.tup ys) => ys.map kB
    | _ => []
  | _ => []
section
variable {Γ : Wd} {ρ : List Addr} {F H : Hp} {s : Sto}
theorem den_hky (g : G Γ ρ F s H) {md : Md} {d : Dt} {v : V} (h : Den Γ ρ F d v) (ok : okD md d = true) : HKy H md v (vKs H v) ∧ vKs H v = keyL d := by
  cases md <;> cases d <;> simp only [okD, Bool.false_eq_true] at ok
  · simp only [Den] at h; subst h; exact ⟨⟨_, rfl, rfl⟩, rfl⟩
  · simp only [Den] at h; obtain ⟨h, _⟩ := h; subst h; exact ⟨⟨_, rfl, rfl⟩, rfl⟩
  · rename_i sh l
    split at ok
    · rename_i ks hk
      simp only [Bool.and_eq_true, decide_eq_true_eq, Bool.not_eq_true'] at ok
      obtain ⟨b, e, hb, hok⟩ := Den.tupAt (ks := ks) g h hk
      subst e
      have e2 : vKs H (.ref b) = ks := by simp only [vKs, hb, kB_kV]
      refine ⟨⟨b, rfl, by rw [e2]; exact hb, by rw [e2]; exact ok.1, fun z => ?_⟩, by rw [e2]; simp only [keyL, hk, Option.getD_some]⟩
      rw [z] at ok
      simp at ok
    · cases ok
theorem dens_perm : ∀ {ys xs : List V}, ys.Perm xs → ∀ {l : List Dt}, Dens Γ ρ F l xs → ∃ l', l'.Perm l ∧ Dens Γ ρ F l' ys := by
  intro ys xs p
  induction p with
  | nil => exact fun {l} h => ⟨l, List.Perm.refl _, h⟩
  | cons x p ih =>
    intro l h
    cases l with
    | nil => simp only [Dens] at h; cases h
    | cons d l =>
      simp only [Dens] at h
      obtain ⟨v, r, e, q, t⟩ := h
      injection e with e1 e2
      subst e1; subst e2
      obtain ⟨l', p', t'⟩ := ih t
      exact ⟨d :: l', p'.cons d, by simp only [Dens]; exact ⟨_, _, rfl, q, t'⟩⟩
  | swap x y p =>
    intro l h
    cases l with
    | nil => simp only [Dens] at h; cases h
    | cons d l =>
      cases l with
      | nil =>
        simp only [Dens] at h
        obtain ⟨v, r, e, q, t⟩ := h
        subst t
        cases e
      | cons d2 l =>
        simp only [Dens] at h
        obtain ⟨v, r, e, q, v2, r2, e2, q2, t⟩ := h
        subst e2
        cases e
        exact ⟨d2 :: d :: l, List.Perm.swap _ _ _, by simp only [Dens]; exact ⟨_, _, rfl, q2, _, _, rfl, q, t⟩⟩
  | trans _ _ ih1 ih2 =>
    intro l h
    obtain ⟨l1, p1, t1⟩ := ih2 h
    obtain ⟨l2, p2, t2⟩ := ih1 t1
    exact ⟨l2, p2.trans p1, t2⟩
theorem sortOk_md {l : List Dt} (h : sortOk l = true) : ∃ md, ∀ d ∈ l, okD md d = true := by
  cases l with
  | nil => exact ⟨.i, fun d hd => nomatch hd⟩
  | cons d l =>
    simp only [sortOk] at h
    cases hm : mdD d with
    | some md => rw [hm] at h; exact ⟨md, List.all_eq_true.mp h⟩
    | none => rw [hm] at h; cases h
theorem dens_mem : ∀ {l : List Dt} {xs : List V}, Dens Γ ρ F l xs → ∀ x ∈ xs, ∃ d ∈ l, Den Γ ρ F d x
  | [], xs, h, x, hx => by simp only [Dens] at h; subst h; cases hx
  | d :: l, xs, h, x, hx => by
    simp only [Dens] at h
    obtain ⟨v, r, e, q, t⟩ := h
    subst e
    rcases List.mem_cons.mp hx with e | hx
    · subst e; exact ⟨d, List.mem_cons_self, q⟩
    · obtain ⟨d', h1, h2⟩ := dens_mem t x hx
      exact ⟨d', List.mem_cons_of_mem _ h1, h2⟩
theorem dens_pairwise (g : G Γ ρ F s H) {md : Md} : ∀ {l : List Dt} {ys : List V}, Dens Γ ρ F l ys → (∀ d ∈ l, okD md d = true) → ys.Pairwise (fun x y => leKs (vKs H x) (vKs H y) = true) → l.Pairwise (fun x y => leKs (keyL x) (keyL y) = true)
  | [], ys, _, _, _ => List.Pairwise.nil
  | d :: l, ys, h, ok, p => by
    simp only [Dens] at h
    obtain ⟨v, r, e, q, t⟩ := h
    subst e
    rw [List.pairwise_cons] at p
    refine List.pairwise_cons.mpr ⟨fun d' hd' => ?_, dens_pairwise g t (fun x hx => ok x (List.mem_cons_of_mem _ hx)) p.2⟩
    obtain ⟨i, hi, e⟩ := List.mem_iff_getElem.mp hd'
    obtain ⟨v', hv', q'⟩ := Dens.get (i := i) (d := d') t (by rw [List.getElem?_eq_getElem hi, e])
    have := p.1 v' (List.mem_of_getElem? hv')
    rw [(den_hky g q (ok d List.mem_cons_self)).2, (den_hky g q' (ok d' (List.mem_cons_of_mem _ hd'))).2] at this
    exact this
/-- what is asked of a sorted list is answered by the sorted data -/
theorem sortQ_of {nw : List Dt → Sto → Out Dt} (n : IsNw nw) {Q : VK} {E : Value → Hp → Prop} {l : List Dt} {xs : List V} (g : G Γ ρ F s H) (t : Dens Γ ρ F l xs) (hz : l.length ≤ sizeLine) (ok : sortOk l = true) (k : EPo Γ ρ F H Q E (nw (sortK keyL l) s)) :
    ∃ md, (∀ x ∈ xs, HKy H md x (vKs H x)) ∧ SortQ H xs (vKs H) Q := by
  obtain ⟨md, hok⟩ := sortOk_md ok
  refine ⟨md, fun x hx => ?_, fun ys p hp hperm hn => ?_⟩
  · obtain ⟨d, hd, q⟩ := dens_mem t x hx
    exact (den_hky g q (hok d hd)).1
  · obtain ⟨l', p', t'⟩ := dens_perm hperm t
    have hok' : ∀ d ∈ l', okD md d = true := fun d hd => hok d (p'.mem_iff.mp hd)
    have e : l' = sortK keyL l := sorted_unique keyL (p'.trans (sortK_perm keyL l).symm) (fun a ha b hb e => okD_inj (hok' a ha) (hok' b hb) e) (dens_pairwise g t' hok' hp) (sortK_sorted keyL l)
    subst e
    exact new_lst n g t' (by rw [(sortK_perm keyL l).length_eq]; exact hz) hn k
end
def dSorted (nw : List Dt → Sto → Out Dt) (d : Dt) (s : Sto) : Out Dt := match asL s d with
  | some l => if sortOk l = true then nw (sortK keyL l) s else .bad
  | none => .bad
section
variable {J : Cn} {X : Cx} {W : WX} {a b c e e2 : Expr} {es : List Expr} {fa fb fc fe : Ex} {fs : List Ex} {pos p p2 apos cpos : Pos}
theorem b_sorted {nw : List Dt → Sto → Out Dt} (n : IsNw nw) : B1 J X (.builtin "sorted") (dSorted nw) := ⟨_, cr_sortedM, fun ρ F s H x dx Q E g rx k => by
  unfold dSorted at k
  split at k
  · rename_i l hl
    split at k
    · rename_i hok
      obtain ⟨a, xs, e1, q, t, z⟩ := g.sqL rx hl
      subst e1
      obtain ⟨md, h1, h2⟩ := sortQ_of n g t z hok k
      exact ⟨a, xs, md, _, rfl, q, h1, h2⟩
    · exact False.elim k
  · exact False.elim k⟩
/-- the keys of a dict of the store, as data -/
def keysOf (s : Sto) : Dt → Option (List Dt)
  | .obj i => match s[i]? with
    | some (.dic kvs) => some (kvs.map fun kv => keyDt kv.1)
    | some (.dicL kvs) => some (kvs.map fun kv => keyDt kv.1)
    | some (.dit kvs) => if kvs.all (fun kv => decide (kv.1.length ≤ 1000)) = true then some (kvs.map fun kv => keysDt kv.1) else none
    | some (.ditL kvs) => if kvs.all (fun kv => decide (kv.1.length ≤ 1000)) = true then some (kvs.map fun kv => keysDt kv.1) else none
    | _ => none
  | _ => none
section
variable {Γ : Wd} {ρ : List Addr} {F H : Hp} {s : Sto}
theorem G.adoptAll : ∀ {bs : List Addr} {F : Hp}, G Γ ρ F s H → (∀ b ∈ bs, ∃ xs, H b = some (.tup xs)) → ∃ F', LE ρ F H ρ F' H ∧ G Γ ρ F' s H ∧ ∀ b ∈ bs, ∀ xs, H b = some (.tup xs) → F' b = some (.tup xs)
  | [], F, g, _ => ⟨F, LE.refl, g, fun b hb => nomatch hb⟩
  | b :: bs, F, g, h => by
    obtain ⟨xs, hb⟩ := h b List.mem_cons_self
    obtain ⟨F1, l1, g1, h1⟩ := g.adopt hb
    obtain ⟨F2, l2, g2, h2⟩ := G.adoptAll (bs := bs) g1 fun c hc => h c (List.mem_cons_of_mem _ hc)
    refine ⟨F2, l1.trans l2, g2, fun c hc ys hys => ?_⟩
    rcases List.mem_cons.mp hc with e | hc
    · subst e
      rw [hb] at hys
      cases hys
      exact l2.ld.sub _ _ h1
    · exact h2 c hc ys hys
theorem denK_keys {κ : Type} : ∀ {kvs : List (κ × Dt)} {vs : List (κ × V)}, DenK Γ ρ F kvs vs → kvs.map (·.1) = vs.map (·.1)
  | [], vs, h => by simp only [DenK] at h; subst h; rfl
  | (f, d) :: r, vs, h => by
    obtain ⟨w, r', e1, q, t⟩ := h
    subst e1
    rw [List.map_cons, List.map_cons, denK_keys t]
theorem dens_keysK : ∀ {ks : List Key}, (∀ k ∈ ks, kOk k = true) → Dens Γ ρ F (ks.map keyDt) (ks.map kV)
  | [], _ => by simp only [List.map_nil, Dens]
  | k :: ks, h => by
    simp only [List.map_cons, Dens]
    exact ⟨_, _, rfl, Den.ofKey (h k List.mem_cons_self), dens_keysK fun x hx => h x (List.mem_cons_of_mem _ hx)⟩
theorem dens_keysT {F' : Hp} {kvs : List (List Key × V)} {bs : List Addr} (hk : IsKeys H kvs bs) (hF : ∀ b ∈ bs, ∀ xs, H b = some (.tup xs) → F' b = some (.tup xs)) (h1 : ∀ kv ∈ kvs, kv.1.all kOk = true) (h2 : ∀ kv ∈ kvs, kv.1.length ≤ 1000) : Dens Γ ρ F' (kvs.map fun kv => keysDt kv.1) (bs.map V.ref) := by
  unfold IsKeys at hk
  induction hk with
  | nil => simp only [List.map_nil, Dens]
  | @cons p b ps bs hb t ih =>
    simp only [List.map_cons, Dens]
    refine ⟨_, _, rfl, ?_, ih (fun c hc => hF c (List.mem_cons_of_mem _ hc)) (fun kv hkv => h1 kv (List.mem_cons_of_mem _ hkv)) fun kv hkv => h2 kv (List.mem_cons_of_mem _ hkv)⟩
    simp only [keysDt, Den]
    refine ⟨?_, b, _, rfl, hF b List.mem_cons_self _ hb, Dens.ofKeys (h1 p List.mem_cons_self)⟩
    have := h2 p List.mem_cons_self
    rw [List.length_map, sizeLine_eq]
    omega
/-- the view's keys as data: of plain keys, or of tuples that may be adopted -/
theorem G.keysAt (g : G Γ ρ F s H) {d : Dt} {v : V} {l : List Dt} (r : Den Γ ρ F d v) (h : keysOf s d = some l) : ∃ a, v = .ref a ∧ IsD H a ∧ l.length ≤ sizeLine ∧
    ((∃ kvs, Rd H a (.dK kvs) ∧ Dens Γ ρ F l (kvs.map fun kv => kV kv.1)) ∨ ∃ kvs, Rd H a (.dT kvs) ∧ ∀ H1 bs, (∀ b xs, H1 b = some (.tup xs) → H b = some (.tup xs)) → IsKeys H1 kvs bs → (∀ b ∈ bs, ∃ xs, H1 b = some (.tup xs)) ∧ ∀ F', (∀ b ∈ bs, ∀ xs, H1 b = some (.tup xs) → F' b = some (.tup xs)) → Dens Γ ρ F' l (bs.map V.ref)) := by
  have memK : ∀ {kvs : List (List Key × V)} {bs : List Addr} {H1 : Hp}, IsKeys H1 kvs bs → ∀ b ∈ bs, ∃ xs, H1 b = some (.tup xs) := fun {kvs bs H1} hk => by
    unfold IsKeys at hk
    induction hk with
    | nil => exact fun b hb => nomatch hb
    | cons h t ih =>
      intro b hb
      rcases List.mem_cons.mp hb with e | hb
      · subst e; exact ⟨_, h⟩
      · exact ih b hb
  have goK : ∀ (i : Nat) (kvs : List (Key × Dt)) (a : Addr) (vs : List (Key × V)), (kvs.length ≤ sizeLine ∧ ∀ kv ∈ kvs, kOk kv.1 = true) → Rd H a (.dK vs) → DenK Γ ρ F kvs vs → some (kvs.map fun kv => keyDt kv.1) = some l → v = .ref a →
      ∃ a, v = .ref a ∧ IsD H a ∧ l.length ≤ sizeLine ∧ ((∃ kvs, Rd H a (.dK kvs) ∧ Dens Γ ρ F l (kvs.map fun kv => kV kv.1)) ∨ ∃ kvs, Rd H a (.dT kvs) ∧ ∀ H1 bs, (∀ b xs, H1 b = some (.tup xs) → H b = some (.tup xs)) → IsKeys H1 kvs bs → (∀ b ∈ bs, ∃ xs, H1 b = some (.tup xs)) ∧ ∀ F', (∀ b ∈ bs, ∀ xs, H1 b = some (.tup xs) → F' b = some (.tup xs)) → Dens Γ ρ F' l (bs.map V.ref)) := fun i kvs a vs ⟨z1, z2⟩ hx t e ea => by
    injection e with e
    subst e
    refine ⟨a, ea, .inl ⟨vs, hx⟩, by rw [List.length_map]; exact z1, .inl ⟨vs, hx, ?_⟩⟩
    have e1 : (kvs.map fun kv => keyDt kv.1) = (kvs.map (·.1)).map keyDt := by rw [List.map_map]; rfl
    have e2 : (vs.map fun kv => kV kv.1) = (vs.map (·.1)).map kV := by rw [List.map_map]; rfl
    rw [e1, e2, ← denK_keys t]
    refine dens_keysK fun k hk => ?_
    obtain ⟨kv, hkv, e⟩ := List.mem_map.mp hk
    rw [← e]
    exact z2 kv hkv
  have goT : ∀ (i : Nat) (kvs : List (List Key × Dt)) (a : Addr) (vs : List (List Key × V)), (kvs.length ≤ sizeLine ∧ ∀ kv ∈ kvs, kv.1.all kOk = true) → Rd H a (.dT vs) → DenK Γ ρ F kvs vs → (if kvs.all (fun kv => decide (kv.1.length ≤ 1000)) = true then some (kvs.map fun kv => keysDt kv.1) else none) = some l → v = .ref a →
      ∃ a, v = .ref a ∧ IsD H a ∧ l.length ≤ sizeLine ∧ ((∃ kvs, Rd H a (.dK kvs) ∧ Dens Γ ρ F l (kvs.map fun kv => kV kv.1)) ∨ ∃ kvs, Rd H a (.dT kvs) ∧ ∀ H1 bs, (∀ b xs, H1 b = some (.tup xs) → H b = some (.tup xs)) → IsKeys H1 kvs bs → (∀ b ∈ bs, ∃ xs, H1 b = some (.tup xs)) ∧ ∀ F', (∀ b ∈ bs, ∀ xs, H1 b = some (.tup xs) → F' b = some (.tup xs)) → Dens Γ ρ F' l (bs.map V.ref)) := fun i kvs a vs ⟨z1, z2⟩ hx t e ea => by
    split at e
    · rename_i hl
      injection e with e
      subst e
      refine ⟨a, ea, .inr ⟨vs, hx⟩, by rw [List.length_map]; exact z1, .inr ⟨vs, hx, fun H1 bs hH hk => ⟨memK hk, fun F' hF => ?_⟩⟩⟩
      have e1 : (kvs.map fun kv => keysDt kv.1) = vs.map fun kv => keysDt kv.1 := by
        have := congrArg (List.map keysDt) (denK_keys t)
        rw [List.map_map, List.map_map] at this
        exact this
      have memv : ∀ kv ∈ vs, ∃ kv' ∈ kvs, kv'.1 = kv.1 := fun kv hkv => by
        have : kv.1 ∈ kvs.map (·.1) := by rw [denK_keys t]; exact List.mem_map.mpr ⟨kv, hkv, rfl⟩
        obtain ⟨kv', h1, h2⟩ := List.mem_map.mp this
        exact ⟨kv', h1, h2⟩
      rw [e1]
      exact dens_keysT hk hF (fun kv hkv => by obtain ⟨kv', h1, h2⟩ := memv kv hkv; rw [← h2]; exact z2 kv' h1) (fun kv hkv => by obtain ⟨kv', h1, h2⟩ := memv kv hkv; rw [← h2]; simpa using List.all_eq_true.mp hl kv' h1)
    · cases e
  cases d with
  | obj i =>
    simp only [Den] at r
    obtain ⟨a, ea, q⟩ := r
    simp only [keysOf] at h
    split at h
    · rename_i kvs hs
      obtain ⟨z, vs, hx, t⟩ := g.at_ i a _ q hs
      exact goK i kvs a vs z (.inl hx) t h ea
    · rename_i kvs hs
      obtain ⟨z, od, vs, hx, t⟩ := g.at_ i a _ q hs
      exact goK i kvs a vs z (.inr ⟨od, hx.1⟩) t h ea
    · rename_i kvs hs
      obtain ⟨z, vs, hx, t⟩ := g.at_ i a _ q hs
      exact goT i kvs a vs z (.inl hx) t h ea
    · rename_i kvs hs
      obtain ⟨z, od, vs, hx, t⟩ := g.at_ i a _ q hs
      exact goT i kvs a vs z (.inr ⟨od, hx.1⟩) t h ea
    · cases h
  | _ => simp [keysOf] at h
end
def dListK (nw : List Dt → Sto → Out Dt) (d : Dt) (s : Sto) : Out Dt := match keysOf s d with
  | some l => nw l s
  | none => .bad
def dSortK (nw : List Dt → Sto → Out Dt) (d : Dt) (s : Sto) : Out Dt := match keysOf s d with
  | some l => if sortOk l = true then nw (sortK keyL l) s else .bad
  | none => .bad
theorem upd_tup {H : Hp} {p v d : Addr} (hp : H p = none) {b : Addr} {xs : List V} (h : upd H p (KvO v d) b = some (.tup xs)) : H b = some (.tup xs) := by
  by_cases e : b = p
  · subst e; rw [upd_same] at h; cases h
  · rw [upd_ne e] at h; exact h
theorem rd_upd {H : Hp} {p a : Addr} {o u : HO} (hp : H p = none) (h : Rd H a u) : Rd (upd H p o) a u := by
  rcases h with h | ⟨od, h⟩
  · exact .inl (upd_keep hp h)
  · exact .inr ⟨od, upd_keep hp h⟩
theorem es_listK {nw : List Dt → Sto → Out Dt} (n : IsNw nw) (hc : X.calm = true) (hg : Gl X "list") (hm : X.mg "list" = none) (hv : bootBuiltins "list" = some (.type "list")) (ha : ES J X W e fe) (hn : ("list" : Str) ≠ "__name__" := by decide) (hdb : (("list" : Str) == ("__debug__" : Str)) = false := by decide)
    (he : starEach [.Call (.Attribute e "keys" apos) [] [] cpos] X.env = (false, eval (.Call (.Attribute e "keys" apos) [] [] cpos) X.env) :: starEach [] X.env := by rfl) (hbase : attributeBase e "keys" X.env (eval e X.env) = eval e X.env := by rfl) (hline : (apos.endLine == cpos.line) = true := by rfl) :
    ES J X W (.Call (.Name "list" p) [.Call (.Attribute e "keys" apos) [] [] cpos] [] pos) (eUn (dListK nw) fe) :=
  PE.imp (pe_callTy (cr_listV hc) hg hm hv (pa_cons (pe_keysV ha hbase hline) pa_nil he) hn hdb he rfl) fun σ H Q ⟨env, ρ, F, s, g, l, k⟩ => ⟨env, ρ, F, s, g, l, Po.bind k fun x s1 ρ1 F1 H1 v e1 l1 g1 r1 k1 => by
    unfold dListK at k1
    split at k1
    · rename_i ls hk
      obtain ⟨a, ea, hd, hz, h⟩ := g1.keysAt r1 hk
      refine ⟨a, ea, hd, fun p hp => ⟨p, a, rfl, upd_same, ?_⟩⟩
      have g2 := g1.skip (KvO p a) hp
      have l2 : LE ρ1 F1 H1 ρ1 F1 (upd H1 p (KvO p a)) := LE.skip hp
      rcases h with ⟨kvs, hr, t⟩ | ⟨kvs, hr, t⟩
      · exact .inl ⟨kvs, rd_upd hp hr, fun q hq => new_lst n g2 t hz hq (k1.mono l2 (fun _ _ z => z) fun _ _ z => z)⟩
      · refine .inr ⟨kvs, rd_upd hp hr, fun q bs hq hb => ?_⟩
        obtain ⟨h1, h2⟩ := t _ bs (fun b xs z => upd_tup hp z) hb
        obtain ⟨F3, l3, g3, h3⟩ := g2.adoptAll h1
        exact new_lst n g3 (h2 F3 h3) hz hq (k1.mono (l2.trans l3) (fun _ _ z => z) fun _ _ z => z)
    · exact False.elim k1⟩
theorem es_sortK {nw : List Dt → Sto → Out Dt} (n : IsNw nw) (hc : X.calm = true) (hg : Gl X "sorted") (hm : X.mg "sorted" = none) (hv : bootBuiltins "sorted" = some (.builtin "sorted")) (ha : ES J X W e fe) (hn : ("sorted" : Str) ≠ "__name__" := by decide) (hdb : (("sorted" : Str) == ("__debug__" : Str)) = false := by decide)
    (he : starEach [.Call (.Attribute e "keys" apos) [] [] cpos] X.env = (false, eval (.Call (.Attribute e "keys" apos) [] [] cpos) X.env) :: starEach [] X.env := by rfl) (hbase : attributeBase e "keys" X.env (eval e X.env) = eval e X.env := by rfl) (hline : (apos.endLine == cpos.line) = true := by rfl) :
    ES J X W (.Call (.Name "sorted" p) [.Call (.Attribute e "keys" apos) [] [] cpos] [] pos) (eUn (dSortK nw) fe) :=
  PE.imp (pe_callB (cr_sortedV hc) hg hm hv (pa_cons (pe_keysV ha hbase hline) pa_nil he) hn hdb he rfl) fun σ H Q ⟨env, ρ, F, s, g, l, k⟩ => ⟨env, ρ, F, s, g, l, Po.bind k fun x s1 ρ1 F1 H1 v e1 l1 g1 r1 k1 => by
    unfold dSortK at k1
    split at k1
    · rename_i ls hk
      split at k1
      · rename_i hok
        obtain ⟨a, ea, hd, hz, h⟩ := g1.keysAt r1 hk
        refine ⟨a, ea, hd, fun p hp => ⟨p, a, rfl, upd_same, ?_⟩⟩
        have g2 := g1.skip (KvO p a) hp
        have l2 : LE ρ1 F1 H1 ρ1 F1 (upd H1 p (KvO p a)) := LE.skip hp
        rcases h with ⟨kvs, hr, t⟩ | ⟨kvs, hr, t⟩
        · obtain ⟨md, h1, h2⟩ := sortQ_of (Q := Q) (E := fun c H' => W c none σ H') n g2 t hz hok (k1.mono l2 (fun _ _ z => z) fun _ _ z => z)
          exact .inl ⟨kvs, md, _, rd_upd hp hr, h1, h2⟩
        · refine .inr ⟨kvs, rd_upd hp hr, fun bs hb => ?_⟩
          obtain ⟨h1, h2⟩ := t _ bs (fun b xs z => upd_tup hp z) hb
          obtain ⟨F3, l3, g3, h3⟩ := g2.adoptAll h1
          obtain ⟨md, h4, h5⟩ := sortQ_of (Q := Q) (E := fun c H' => W c none σ H') n g3 (h2 F3 h3) hz hok (k1.mono (l2.trans l3) (fun _ _ z => z) fun _ _ z => z)
          exact ⟨md, _, h4, h5⟩
      · exact False.elim k1
    · exact False.elim k1⟩
end
end Pd
namespace Pd
open PySem L2
/-! ### sets of texts, made of a list -/
/-- the first of each -/
def uniq (xs : List Str) : List Str := xs.foldl (fun a x => if x ∈ a then a else a ++ [x]) []
theorem uniq_snoc (xs : List Str) (x : Str) : uniq (xs ++ [x]) = if x ∈ uniq xs then uniq xs else uniq xs ++ [x] := by
  unfold uniq
  rw [List.foldl_append]
  rfl
theorem uniq_mem (xs : List Str) (y : Str) : y ∈ uniq xs ↔ y ∈ xs := by
  have go : ∀ (l a : List Str), y ∈ l.foldl (fun a x => if x ∈ a then a else a ++ [x]) a ↔ y ∈ a ∨ y ∈ l := by
    intro l
    induction l with
    | nil => intro a; simp
    | cons x l ih =>
      intro a
      rw [List.foldl_cons, ih]
      by_cases h : x ∈ a
      · rw [if_pos h, List.mem_cons]
        constructor
        · rintro (h1 | h1)
          · exact .inl h1
          · exact .inr (.inr h1)
        · rintro (h1 | h1 | h1)
          · exact .inl h1
          · rw [h1]; exact .inl h
          · exact .inr h1
      · rw [if_neg h, List.mem_append, List.mem_singleton, List.mem_cons, or_assoc]
  have := go xs []
  simpa [uniq] using this
theorem uniq_len (xs : List Str) : (uniq xs).length ≤ xs.length := by
  have go : ∀ (l a : List Str), (l.foldl (fun a x => if x ∈ a then a else a ++ [x]) a).length ≤ a.length + l.length := by
    intro l
    induction l with
    | nil => intro a; simp
    | cons x l ih =>
      intro a
      rw [List.foldl_cons]
      by_cases h : x ∈ a
      · rw [if_pos h, List.length_cons]
        have := ih a
        omega
      · rw [if_neg h, List.length_cons]
        have := ih (a ++ [x])
        rw [List.length_append, List.length_singleton] at this
        omega
  have := go xs []
  simpa [uniq] using this
section
open PySem.Spec PyProof.Rows
variable {prog : Program} {w : World} {A : Around} {κ : Type} [DecidableEq κ] {knd : KeyKind prog w κ} {E : Value → Shared → Prop}
/-- a set of things of a kind whose table rises -/
def SetU (knd : KeyKind prog w κ) (h : Heap) (a : Addr) (S : κ → Bool) (n : Nat) : Prop :=
  ∃ ob es ep tb, h.get? a = some ob ∧ ob.ExactSet ∧ ob.data = .set es ep tb ∧ ElemsOf knd es.toList ∧ (∀ k, S k = true ↔ ∃ x ∈ es.toList, knd.is k x.2 = true) ∧ es.size < scanBound ∧ tb.fits es.size = true ∧ es.size = n ∧
    (Ris tb.place.toList ∧ (w.params.followText "set-order" = true ∨ tb.led = true))
theorem SetU.setOf {h : Heap} {a : Addr} {S : κ → Bool} {n : Nat} (u : SetU knd h a S n) : h.SetOf knd a S n := by
  obtain ⟨ob, es, ep, tb, h1, h2, h3, h4, h5, h6, h7, h8, _⟩ := u
  exact ⟨ob, es, ep, tb, h1, h2, h3, h4, h5, h6, h7, h8⟩
theorem SetU.keeps {h h' : Heap} {a : Addr} {S : κ → Bool} {n : Nat} (u : SetU knd h a S n) (k : ∀ ob, h.get? a = some ob → h'.get? a = some ob) : SetU knd h' a S n := by
  obtain ⟨ob, es, ep, tb, h1, r⟩ := u
  exact ⟨ob, es, ep, tb, k ob h1, r⟩
theorem SetU.congr {h : Heap} {a : Addr} {S S' : κ → Bool} {n n' : Nat} (u : SetU knd h a S n) (hS : ∀ k, S k = S' k) (hn : n = n') : SetU knd h a S' n' := by
  have e : S = S' := funext hS
  rw [← e, ← hn]
  exact u
/-- the stores at the end of an add -/
theorem setU_stored {put : Bool → Sem Unit} (hput : ∀ (b : Bool) (z : Shared) (Q : Unit → Shared → Prop), Q () z → wpAny (model prog w) A (put b) Q E z) {s : Shared} {a : Addr} {S : κ → Bool} {ob : Obj} {es0 es : Array (Int × Value)} {ep : Nat} {tb0 tb : SetTable} {dum : Bool} {R : Option Bool → Shared → Prop}
    (hat : s.heap.get? a = some ob) (hx : ob.ExactSet) (hdat : ob.data = .set es0 ep tb0) (hel : ElemsOf knd es.toList) (hmem : ∀ k, S k = true ↔ ∃ x ∈ es.toList, knd.is k x.2 = true) (hsz : es.size < scanBound) (hfit : tb.fits es.size = true) (hris : Ris tb.place.toList ∧ (w.params.followText "set-order" = true ∨ tb.led = true))
    (fin : ∀ h', Heap.SameBut a s.heap h' → SetU knd h' a S es.size → R (some true) { s with heap := h' }) :
    wpAny (model prog w) A (do
        storeSet a es tb
        if (!dum && tb.tooFull) = true then do
            put (relayAll tb es (SetTable.grown es.size)).2.2
            storeSet a (relayAll tb es (SetTable.grown es.size)).1 (relayAll tb es (SetTable.grown es.size)).2.1
            pure (some true)
          else pure (some true)) R E s := by
  have one := store_at (es' := es) (t' := tb) hat hdat
  have sm := Heap.SameBut.update s.heap a (Obj.putSet es tb)
  refine wpAny_bind (wpAny_storeSet_of hat hdat ?_ (fits_of_scanBound hsz))
  by_cases hfull : (!dum && tb.tooFull) = true
  · rw [if_pos hfull]
    have q1 := relayAll_perm tb es (SetTable.grown es.size)
    have q2 := relayAll_fits tb es (SetTable.grown es.size)
    have q3 := relayAll_ris tb es (SetTable.grown es.size)
    have q4 := relayAll_led tb es (SetTable.grown es.size)
    revert q1 q2 q3 q4
    generalize relayAll tb es (SetTable.grown es.size) = y
    obtain ⟨es', tb', gv⟩ := y
    intro q1 q2 q3 q4
    simp only at q1 q2 q3 q4 ⊢
    have ez : es'.size = es.size := by rw [← Array.length_toList, q1.length_eq, Array.length_toList]
    refine wpAny_bind (hput _ _ _ (wpAny_bind (wpAny_storeSet_of one rfl ?_ (fits_of_scanBound (by rw [ez]; exact hsz)))))
    refine wpAny_pure (fin _ (sm.trans (Heap.SameBut.update _ a _)) ⟨_, es', _, tb', store_at (es' := es') (t' := tb') one rfl, hx, rfl, fun x hm => hel x (q1.mem_iff.mp hm), fun k => ?_, by rw [ez]; exact hsz, q2, ez, q3, ?_⟩)
    · rw [hmem k]
      exact ⟨fun ⟨x, m, i⟩ => ⟨x, q1.mem_iff.mpr m, i⟩, fun ⟨x, m, i⟩ => ⟨x, q1.mem_iff.mp m, i⟩⟩
    · rcases hris.2 with z | z
      · exact .inl z
      · exact .inr (by rw [q4]; exact z)
  · rw [if_neg hfull]
    exact wpAny_pure (fin _ sm ⟨_, es, _, tb, one, hx, rfl, hel, hmem, hsz, hfit, rfl, hris⟩)
theorem setU_add {s : Shared} {a : Addr} {S : κ → Bool} {n : Nat} {k : κ} {v : Value} {Q : Bool → Shared → Prop} (hk : knd.is k v = true) (hv : v.scannable = true) (u : SetU knd s.heap a S n) (room : n + 1 < scanBound)
    (fin : ∀ h', Heap.SameBut a s.heap h' → SetU knd h' a (fun j => S j || decide (j = k)) (if S k = true then n else n + 1) → Q (!S k) { s with heap := h' }) :
    wpAny (model prog w) A (setAddHashed a v (knd.hash k)) Q E s := by
  obtain ⟨ob, es, ep, tb, hat, hx, hdat, hel, hmem, hsz, hfit, hn, hris⟩ := u
  unfold setAddHashed setAddHashedIn
  refine wpAny_holding (wpAny_bind (wpAny_setState_of hat hdat hfit ?_))
  dsimp only
  rw [byScan_of hv hsz hel, if_pos rfl]
  unfold setAddByScan
  refine wpAny_bind (wpAny_bind (wpAny_rule (wpAny_bind (wpAny_setScan_of hk hat hdat hfit hel ?_))))
  have uniqK : ∀ {x : Int × Value} {j : κ}, knd.is k x.2 = true → knd.is j x.2 = true → j = k := fun h1 h2 => knd.inj _ _ _ h2 h1
  cases ix : List.findIdx? (fun x => knd.is k x.2) es.toList with
  | some j =>
    obtain ⟨lt, at_, _⟩ := List.findIdx?_eq_some_iff_getElem.mp ix
    have yes : S k = true := (hmem k).mpr ⟨_, List.getElem_mem lt, at_⟩
    have z := fin s.heap (Heap.SameBut.refl a s.heap) ⟨ob, es, ep, tb, hat, hx, hdat, hel, fun i => by
      rw [← hmem i, Bool.or_eq_true, decide_eq_true_eq]
      exact ⟨fun y => y.elim id fun e => by rw [e]; exact yes, .inl⟩, hsz, hfit, by rw [if_pos yes]; exact hn, hris⟩
    rw [yes] at z
    exact wpAny_pure (wpAny_pure z)
  | none =>
    have nob : ∀ x ∈ es.toList, knd.is k x.2 = false := fun x m => List.findIdx?_eq_none_iff.mp ix x m
    have no : S k = false := by
      cases y : S k with
      | false => rfl
      | true =>
        obtain ⟨x, m, i⟩ := (hmem k).mp y
        rw [nob x m] at i
        cases i
    have r1 := layNew_perm tb es (knd.hash k) v
    have r2 := layNew_fits tb es (knd.hash k) v
    have r3 := layNew_ris tb es (knd.hash k) v hris.1
    have r4 := layNew_led tb es (knd.hash k) v
    revert r1 r2 r3 r4
    dsimp only
    generalize layNew tb es (knd.hash k) v = y
    obtain ⟨es', tb', dum, gv⟩ := y
    intro r1 r2 r3 r4
    simp only at r1 r2 r3 r4 ⊢
    rw [Array.toList_push] at r1
    have ez : es'.size = n + 1 := by rw [← Array.length_toList, r1.length_eq, List.length_append, Array.length_toList, hn]; rfl
    have bz : es'.size < scanBound := by rw [ez]; exact room
    have led : w.params.followText "set-order" = true ∨ tb'.led = true := by
      rcases hris.2 with z | z
      · exact .inl z
      · exact .inr (by rw [r4]; exact z)
    have el' : ElemsOf knd es'.toList := fun x m => by
      rcases List.mem_append.mp (r1.mem_iff.mp m) with m | m
      · exact hel x m
      · rw [List.mem_singleton.mp m]
        exact ⟨⟨k, hk, rfl⟩, hv⟩
    have mem' : ∀ j, (S j || decide (j = k)) = true ↔ ∃ x ∈ es'.toList, knd.is j x.2 = true := fun j => by
      rw [Bool.or_eq_true, decide_eq_true_eq, hmem j]
      constructor
      · rintro (⟨x, m, i⟩ | e)
        · exact ⟨x, r1.mem_iff.mpr (List.mem_append_left _ m), i⟩
        · exact ⟨_, r1.mem_iff.mpr (List.mem_append_right _ (List.mem_singleton_self _)), by rw [e]; exact hk⟩
      · rintro ⟨x, m, i⟩
        rcases List.mem_append.mp (r1.mem_iff.mp m) with m | m
        · exact .inl ⟨x, m, i⟩
        · rw [List.mem_singleton.mp m] at i
          exact .inr (knd.inj _ _ _ i hk)
    have last : ∀ h', Heap.SameBut a s.heap h' → SetU knd h' a (fun j => S j || decide (j = k)) es'.size → Q true { s with heap := h' } := fun h' sm su => by
      have z := fin h' sm (by rw [no, if_neg Bool.false_ne_true, ← ez]; exact su)
      rw [no] at z
      exact z
    have way : ∀ (b : Bool) (z : Shared) (Q' : Unit → Shared → Prop), Q' () z → wpAny (model prog w) A (match b with | true => rule "set.scan.the-table-gave-way" | false => pure ()) Q' E z := fun b z Q' q => by
      cases b
      · first | exact wpAny_pure q | exact wpAny_rule q
      · first | exact wpAny_rule q | exact wpAny_pure q
    refine wpAny_bind (way gv _ _ ?_)
    split
    · refine wpAny_bind ?_
      rw [hashByValue_scannable 8 hv]
      refine wpAny_pure (setU_stored (S := fun j => S j || decide (j = k)) ?_ hat hx hdat el' mem' bz ?_ ⟨?_, ?_⟩ fun h' sm su => ?_)
      · intro b z Q' q; cases b <;> first | exact wpAny_pure q | exact wpAny_rule q
      · first | exact r2 | (split <;> first | exact r2 | exact SetTable.fits_plain_off r2)
      · first | exact r3 | (split <;> exact r3)
      · first | exact led | (split <;> exact led)
      · exact wpAny_pure (last h' sm su)
    · refine wpAny_bind (wpAny_pure ?_)
      simp only [↓reduceIte]
      refine setU_stored (S := fun j => S j || decide (j = k)) ?_ hat hx hdat el' mem' bz r2 ⟨r3, led⟩ fun h' sm su => ?_
      · intro b z Q' q; cases b <;> first | exact wpAny_pure q | exact wpAny_rule q
      · exact wpAny_pure (last h' sm su)
theorem setU_new {h : Heap} {a : Addr} (e : h.get? a = some { cls := .type "set", dict := none, data := .set #[] 0 (.fresh 0 0 (!w.params.followText "set-order")) }) : SetU knd h a (fun _ => false) 0 := by
  have none : ∀ k, (false = true ↔ ∃ x ∈ (#[] : Array (Int × Value)).toList, knd.is k x.2 = true) := fun k => by simp
  refine ⟨_, #[], 0, _, e, ⟨rfl, rfl, rfl⟩, rfl, (fun x m => by simp at m), none, by decide, by rfl, rfl, List.Pairwise.nil, ?_⟩
  cases hf : w.params.followText "set-order"
  · exact .inr rfl
  · exact .inl rfl
end
section
open PySem.Spec PyProof.Rows
variable {prog : Program} {w : World} {A : Around}
/-- what a set of texts at S tells -/
abbrev TxS (prog : Program) (w : World) (h : Heap) (S : Addr) (xs : List Str) : Prop := SetU (PySem.strKind prog w) h S (fun k => decide (k ∈ uniq xs)) (uniq xs).length
theorem TxS.keeps {h h' : Heap} {S : Addr} {xs : List Str} (t : TxS prog w h S xs) (k : ∀ o, h.get? S = some o → h'.get? S = some o) : TxS prog w h' S xs := by
  obtain ⟨o, es, ep, tb, ho, r⟩ := t
  exact ⟨o, es, ep, tb, k o ho, r⟩
theorem TxS.add {h : Heap} {S : Addr} {xs : List Str} {x : Str} (t : SetU (PySem.strKind prog w) h S (fun k => decide (k ∈ uniq xs) || decide (k = x)) (if decide (x ∈ uniq xs) = true then (uniq xs).length else (uniq xs).length + 1)) : TxS prog w h S (xs ++ [x]) := by
  refine SetU.congr t (fun k => ?_) ?_
  · rw [uniq_snoc, Bool.eq_iff_iff, Bool.or_eq_true, decide_eq_true_eq, decide_eq_true_eq, decide_eq_true_eq]
    by_cases hx : x ∈ uniq xs
    · rw [if_pos hx]
      exact ⟨fun z => z.elim id (fun e => by rw [e]; exact hx), .inl⟩
    · rw [if_neg hx, List.mem_append, List.mem_singleton]
  · rw [uniq_snoc]
    by_cases hx : x ∈ uniq xs
    · rw [if_pos hx, if_pos (decide_eq_true hx)]
    · rw [if_neg hx, if_neg (by simpa using hx), List.length_append]
      rfl
section
variable {R : Result → Shared → Prop} {I : Addr} {fp wr : List Addr} {G : Array GenState → Array GenState → Prop} {n : Nat} {P : Nat → Value → Prop} {St : Nat → Shared → Prop}
theorem take_snoc {xs : List Str} {i : Nat} (h : i < xs.length) : xs.take (i + 1) = xs.take i ++ [xs.getD i Str.empty] := by
  rw [List.take_add_one, List.getElem?_eq_getElem h, List.getD_eq_getElem?_getD, List.getElem?_eq_getElem h]
  rfl
theorem loop_txt (W : WalksS prog w A.in1 I fp wr G n P St) (S : Addr) (hS : S ∉ fp) (xs : List Str) (hn : xs.length = n) (hb : n + 1 < scanBound) (hv : ∀ i v, P i v → ∃ t, v = .str (xs.getD i Str.empty) t) :
    ∀ (k i : Nat) (s : Shared), n - i = k → i ≤ n → St i s → TxS prog w s.heap S (xs.take i) → (∀ s', Moved (S :: wr) G s s' → TxS prog w s'.heap S xs → R (.ok (.ret .none)) s') →
      codeAny (model prog w) A (.builtin "set.update.loop" ⟨[.ref S, .ref I], []⟩) R s := by
  have hw : S ∉ wr := fun h => hS (W.sub _ h)
  have sb : ∀ b ∈ wr, b ∈ S :: wr := fun b h => List.mem_cons_of_mem _ h
  intro k
  induction k with
  | zero =>
    intro i s hk hi st ts fin
    obtain rfl : i = n := by omega
    refine codeAny_builtin PyProof.Rows.F.entry_set_update_loop ?_
    rw [Around.under_plainId PyProof.Rows.F.plain_set_update_loop _]
    show wpAny _ A.in1 (pyNext (.ref I) >>= _) _ _ s
    refine wpAny_bind (W.done s _ _ st fun s' m => ?_)
    show wpAny _ A.in1 (ret Value.none) _ _ s'
    refine wpAny_pure (fin s' (m.mono sb) ?_)
    rw [← hn, List.take_length] at ts
    exact ts.keeps fun o e => m.heap S o hw e
  | succ k ih =>
    intro i s hk hi st ts fin
    have lt : i < n := by omega
    refine codeAny_builtin PyProof.Rows.F.entry_set_update_loop ?_
    rw [Around.under_plainId PyProof.Rows.F.plain_set_update_loop _]
    show wpAny _ A.in1 (pyNext (.ref I) >>= _) _ _ s
    refine wpAny_bind (W.item i s _ _ lt st fun v s' hp st' m => ?_)
    obtain ⟨t, rfl⟩ := hv i v hp
    have ts' := ts.keeps (h' := s'.heap) fun o e => m.heap S o hw e
    show wpAny _ A.in1 (holding [Value.str (xs.getD i Str.empty) t] (setAdd S (.str (xs.getD i Str.empty) t)) >>= _) _ _ s'
    refine wpAny_bind (wpAny_holding ?_)
    unfold setAdd
    refine wpAny_holding ?_
    refine wpAny_bind ((PySem.strKind prog w).pyHash (k := xs.getD i Str.empty) (strKind_is _ _ _ _) ?_)
    have room : (uniq (xs.take i)).length + 1 < scanBound := by
      have := uniq_len (xs.take i)
      rw [List.length_take] at this
      omega
    refine setU_add (knd := PySem.strKind prog w) (s := { s' with toks := s'.toks + 1 }) (strKind_is _ _ _ _) rfl ts' room fun h' same new => ?_
    have ts2 : TxS prog w h' S (xs.take (i + 1)) := by
      rw [take_snoc (by omega)]
      exact TxS.add new
    refine wpAny_pure ⟨plainId_quiet PyProof.Rows.F.plain_set_update_loop _, ih (i + 1) _ (by omega) lt (W.frame _ s' _ _ st' (Nat.le_succ _) fun b hb o e => ?_) ts2 fun s2 m2 ts3 => ?_⟩
    · rw [same.2 b (fun z => hS (by rw [← z]; exact hb))]
      exact e
    · refine fin s2 (Moved.trans W.gtrans ((m.mono sb).then_heap (Nat.le_succ _) fun b o hb e => ?_) m2) ts3
      rw [same.2 b (fun z => hb (by rw [z]; exact List.mem_cons_self))]
      exact e
end
section
variable {E : Value → Shared → Prop} {s : Shared}
/-- set(xs), xs a list of texts -/
theorem call_set_txt {l : Addr} {items : Array Value} {xs : List Str} {Q : Value → Shared → Prop} (hh : A.handled = none) (hl : s.heap.IsList l items) (hi : PyProof.Rows.StrsAre items.toList xs) (hb : xs.length + 1 < scanBound)
    (h : ∀ (h' : Heap) (tk : Nat), TxS prog w h' s.heap.objs.size xs → (∀ b o, b < s.heap.objs.size → s.heap.get? b = some o → h'.get? b = some o) → Q (.ref s.heap.objs.size) { s with heap := h', toks := tk }) :
    wpAny (model prog w) A (call (.type "set") [.ref l]) Q E s := by
  obtain ⟨c, tl, hmro⟩ := PySem.F.called_set.mro
  have hmade := PySem.F.called_set.made
  have hsub := PySem.F.called_set.sub
  refine wpAny_call (codeAny_of_tree ?_)
  show wpAny _ _ (callAny (.type "set") _) _ _ _
  refine wpAny_pure ⟨Code.quiet_builtin _ (by decide +kernel), codeAny_builtin PySem.F.entry_type_call ?_⟩
  rw [Around.under_plain (weight_type_call_type "set" [.ref l] []) rfl]
  have h1 := PySem.F.called_set.notType
  have h2 := PySem.F.called_set.canCreate
  have hct := PySem.F.typeCall_set_1 (.ref l)
  repeat (any_goals (first | assumption | wp_step))
  refine codeAny_mono (code_set_led1 (.ref l) (E := E) (Q₁ := fun made z => ∃ led : Bool, led = (!w.params.followText "set-order") ∧ made = .ref s.heap.objs.size ∧ z = { s with heap := s.heap.push { cls := .type "set", dict := none, data := .set #[] 0 (.fresh 0 0 led) } }) ⟨_, rfl, rfl, rfl⟩) fun r s₁ hr => ?_
  cases r with
  | error e => exact hr
  | ok fl =>
    cases fl with
    | ret obj =>
      obtain ⟨led, hled, rfl, rfl⟩ := hr
      have g0 : (s.heap.push { cls := .type "set", dict := none, data := .set #[] 0 (.fresh 0 0 led) }).get? s.heap.objs.size = some { cls := .type "set", dict := none, data := .set #[] 0 (.fresh 0 0 led) } := Heap.get?_push_size _ rfl
      have hT : Shared.TypeIs { s with heap := s.heap.push { cls := .type "set", dict := none, data := .set #[] 0 (.fresh 0 0 led) } } (.ref s.heap.objs.size) "set" := ⟨_, g0, rfl⟩
      have hli := PySem.F.called_set.init.lookup
      have hbi := PySem.F.called_set.init.bind (.ref s.heap.objs.size)
      repeat (any_goals (first | assumption | wp_step))
      refine codeAny_mono (codeAny_call_builtin (R := wants (fun r s₂ => r = .none ∧ ∃ h' tk, s₂ = { s with heap := h', toks := tk } ∧ TxS prog w h' s.heap.objs.size xs ∧ (∀ b o, b < s.heap.objs.size → s.heap.get? b = some o → h'.get? b = some o)) E) PySem.F.called_set.init.plain PySem.F.entry_set_init (check_set_init_1 hT ?_)) fun r₂ s₂ hr₂ => ?_
      · obtain ⟨⟨ocls, odict, odata, oslots⟩, hol, hcl, nl, hdl⟩ := hl
        simp only at hcl hdl
        subst hcl; subst hdl
        have hol' : (s.heap.push { cls := .type "set", dict := none, data := .set #[] 0 (.fresh 0 0 led) }).get? l = some { cls := .type "list", dict := odict, data := .seq items nl, slots := oslots } := Heap.get?_push_of_some _ hol
        have hsls := PySem.F.sub_list_set
        have hslf := PySem.F.sub_list_frozenset
        have hne : (Value.type "list" == Value.type "dict") = false := by decide
        have hl1 : (s.heap.push { cls := .type "set", dict := none, data := .set #[] 0 (.fresh 0 0 led) }).IsList l items := ⟨_, hol', rfl, nl, rfl⟩
        unfold Builtin.«set.__init__» noKeywords Builtin.Frozenset.updateFrom
        generalize hPI : pyIter = PI
        wp_walk
        subst hPI
        refine wpAny_pyIter_list hl1 ?_
        refine wpAny_bind (wpAny_runValue ?_)
        have lS : l < s.heap.objs.size := Heap.lt_size hol
        have hh3 : A.in1.in1.in1.handled = none := by simp [hh]
        have sz1 : (s.heap.push { cls := .type "set", dict := none, data := .set #[] 0 (.fresh 0 0 led) }).objs.size = s.heap.objs.size + 1 := Heap.size_push ..
        have ne1 : l ≠ (s.heap.push { cls := .type "set", dict := none, data := .set #[] 0 (.fresh 0 0 led) }).objs.size := by rw [sz1]; exact Nat.ne_of_lt (Nat.lt_succ_of_lt lS)
        have no : s.heap.objs.size ∉ [(s.heap.push { cls := .type "set", dict := none, data := .set #[] 0 (.fresh 0 0 led) }).objs.size, l] := by
          rw [sz1]
          simp only [List.mem_cons, List.not_mem_nil, or_false, not_or]
          exact ⟨Nat.ne_of_lt (Nat.lt_succ_self _), Nat.ne_of_gt lS⟩
        have len : xs.length = items.size := by rw [← StrsAre.len_eq hi, Array.length_toList]
        refine loop_txt ((Walks.list hh3 _ l ne1 items).toS) s.heap.objs.size no xs len (by rw [← len]; exact hb) (fun i v e => SS.strs_at hi i v (by rw [Array.getElem?_toList]; exact e)) (items.size - 0) 0 _ (by omega) (Nat.zero_le _)
          ⟨⟨_, Heap.get?_push_size _ rfl, rfl, rfl⟩, (hl1.push _)⟩ ?_ ?_
        · have g1 : ((s.heap.push { cls := .type "set", dict := none, data := .set #[] 0 (.fresh 0 0 led) }).push { cls := .type "list_iterator", data := .fields #[.ref l, .int 0 0] }).get? s.heap.objs.size
              = some { cls := .type "set", dict := none, data := .set #[] 0 (.fresh 0 0 led) } := Heap.get?_push_of_some _ g0
          rw [hled] at g1 ⊢
          exact SetU.congr (setU_new (knd := PySem.strKind prog w) g1) (fun _ => rfl) rfl
        · intro s' m ts
          obtain ⟨h', g', d', tk', os'⟩ := s'
          have eg : g' = s.gens := m.gens
          have ed : d' = s.drawn := m.drawn
          have eo : os' = s.os := m.os
          subst eg; subst ed; subst eo
          show wpAny _ _ _ _ _ _
          refine wpAny_pure ?_
          show wpAny _ _ (ret Value.none) _ _ _
          refine wpAny_pure ⟨rfl, h', tk', rfl, ts, fun b o hb e => ?_⟩
          refine m.heap b o ?_ (Heap.get?_push_of_some _ (Heap.get?_push_of_some _ e))
          simp only [List.mem_cons, List.not_mem_nil, or_false, not_or]
          exact ⟨Nat.ne_of_lt hb, by rw [sz1]; exact Nat.ne_of_lt (Nat.lt_succ_of_lt hb)⟩
      · cases r₂ with
        | error e => exact hr₂
        | ok fl₂ =>
          cases fl₂ with
          | ret r =>
            obtain ⟨rfl, h', tk, rfl, hS', hk'⟩ := hr₂
            repeat (any_goals (first | assumption | wp_step))
            exact h _ _ hS' hk'
          | _ => exact hr₂.elim
    | _ => exact hr.elim
end
end
section
variable {J : Cn} {X : Cx} {W : WX} {a e : Expr} {fa fe : Ex} {p p2 q pos p1 p3 : Pos}
def tLenTx (K : PySem.W.Frag) (ta : TE) : TE := fun σ H Q => ta σ H fun x H1 => ∃ l, ∃ xs : List Str, x = .ref l ∧ SqL K H1 l (xs.map V.str) ∧ xs.length ≤ 4000 ∧ Q (.int (uniq xs).length) H1
open PySem.Spec PyProof.Rows in
theorem pe_lenTx {ta : TE} (hc : X.calm = true) (hg : Gl X "len") (hm : X.mg "len" = none) (hg2 : Gl X "set") (hm2 : X.mg "set" = none) (ha : PE X a ta)
    (na : starEach [a] X.env = (false, eval a X.env) :: starEach [] X.env := by rfl) : PE X (.Call (.Name "len" p) [.Call (.Name "set" p2) [a] [] q] [] pos) (tLenTx X.K ta) := by
  refine ⟨fun pins s σ H Q I h => ?_⟩
  refine Call_ (ld_blt I hg hm boot_len ?_)
  refine PyProof.Rows.callWith_builtin1 (PyProof.Rows.args_cons ?_ rfl) rfl rfl
  refine Call_ (ld_blt I hg2 hm2 boot_set ?_)
  refine PyProof.Rows.callWith_type1 (PyProof.Rows.args_cons (thn (ha.run pins s σ H _ I h) fun v s1 ⟨x, H1, I1, r1, q1⟩ => PyProof.Rows.args_nil ?_) na) na rfl
  obtain ⟨l, xs, rfl, hq, h1, q1⟩ := q1
  cases r1
  obtain ⟨its, r, pl, hz⟩ := I1.list hq
  refine call_set_txt (I1.ok.hd hc) pl.isList (by simpa using strsAre_of r) (by unfold scanBound; omega) fun h' tk ts hk => ?_
  refine PyProof.Rows.args_nil ?_
  have ul := uniq_len xs
  obtain ⟨o, es, ep, t, ho, hex, hd, _, _, _, hf, hn, _⟩ := ts
  have I2 : Inv X pins σ H1 { s1 with heap := h', toks := tk } := I1.kept fun b o e => hk b o (Heap.lt_size e) e
  exact call_len_set ho hex hd hf (by rw [hn]; omega) ⟨.int (uniq xs).length, H1, I2.tok _, ⟨_, by rw [hn]⟩, q1⟩
/-- len(set(xs)) of texts -/
def txtsD : List Dt → Option (List Str)
  | [] => some []
  | .str x :: r => (txtsD r).map (x :: ·)
  | _ => none
theorem Dens.txts {Γ : Wd} {ρ : List Addr} {F : Hp} : ∀ {ds : List Dt} {vs : List V} {xs : List Str}, Dens Γ ρ F ds vs → txtsD ds = some xs → vs = xs.map V.str
  | [], vs, xs, h, e => by
    simp only [Dens] at h; simp only [txtsD, Option.some.injEq] at e
    subst h; subst e; rfl
  | d :: ds, vs, xs, h, e => by
    simp only [Dens] at h
    obtain ⟨v, r, e1, q, t⟩ := h
    cases d with
    | str x =>
      simp only [txtsD] at e
      obtain ⟨ys, h1, h2⟩ := Option.map_eq_some_iff.mp e
      subst e1; subst h2
      simp only [Den] at q
      rw [q.1, Dens.txts t h1]
      rfl
    | _ => simp [txtsD] at e
def dLenTx (d : Dt) (s : Sto) : Out Dt := match asL s d with
  | some l => match txtsD l with
    | some xs => if xs.length ≤ 4000 then .ok (.int (uniq xs).length) s else .bad
    | none => .bad
  | none => .bad
theorem es_lenTx (hc : X.calm = true) (hg : Gl X "len") (hm : X.mg "len" = none) (hg2 : Gl X "set") (hm2 : X.mg "set" = none) (ha : ES J X W a fa)
    (na : starEach [a] X.env = (false, eval a X.env) :: starEach [] X.env := by rfl) : ES J X W (.Call (.Name "len" p) [.Call (.Name "set" p2) [a] [] q] [] pos) (eUn dLenTx fa) :=
  PE.imp (pe_lenTx hc hg hm hg2 hm2 ha na) fun σ H Q ⟨env, ρ, F, s, g, l, k⟩ => ⟨env, ρ, F, s, g, l, Po.bind k fun x s1 ρ1 F1 H1 v e1 l1 g1 r1 k1 => by
    unfold dLenTx at k1
    split at k1
    · rename_i ds hl
      split at k1
      · rename_i xs hx
        split at k1
        · rename_i hz
          obtain ⟨a', vs, h1, h2, h3, h4⟩ := g1.sqL r1 hl
          refine ⟨a', xs, h1, ?_, hz, k1 ρ1 F1 H1 _ LE.refl g1 (by simp only [Den])⟩
          rw [← h3.txts hx]
          exact h2
        · exact False.elim k1
      · exact False.elim k1
    · exact False.elim k1⟩
/-- xs[::-1] -/
def dRev (nw : List Dt → Sto → Out Dt) (d : Dt) (s : Sto) : Out Dt := match asL s d with
  | some l => nw l.reverse s
  | none => .bad
theorem Dens.rev {Γ : Wd} {ρ : List Addr} {F : Hp} {ds : List Dt} {vs : List V} (h : Dens Γ ρ F ds vs) : Dens Γ ρ F ds.reverse vs.reverse := by
  obtain ⟨l', p, t⟩ := dens_perm (List.reverse_perm vs) h
  have go : ∀ {ds : List Dt} {vs : List V}, Dens Γ ρ F ds vs → ∀ {es : List Dt} {us : List V}, Dens Γ ρ F es us → Dens Γ ρ F (ds.reverse ++ es) (vs.reverse ++ us) := by
    intro ds
    induction ds with
    | nil => intro vs h es us k; simp only [Dens] at h; subst h; exact k
    | cons d ds ih =>
      intro vs h es us k
      simp only [Dens] at h
      obtain ⟨v, r, e1, q, t⟩ := h
      subst e1
      rw [List.reverse_cons, List.reverse_cons, List.append_assoc, List.append_assoc]
      refine ih t ?_
      show Dens Γ ρ F (d :: es) (v :: us)
      simp only [Dens]
      exact ⟨v, us, rfl, q, k⟩
  have := go h (es := []) (us := []) (by simp only [Dens])
  rw [List.append_nil, List.append_nil] at this
  exact this
theorem es_rev {nw : List Dt → Sto → Out Dt} (n : IsNw nw) {k : Nat} (he : ES J X W e fe) : ES J X W (.Subscript e (.Slice none none (some (.UnaryOp .USub (.Constant (.int 1) k p1) p2)) p3) pos) (eUn (dRev nw) fe) :=
  PE.imp (pe_revL he) fun σ H Q ⟨env, ρ, F, s, g, l, k⟩ => ⟨env, ρ, F, s, g, l, Po.bind k fun x s1 ρ1 F1 H1 v e1 l1 g1 r1 k1 => by
    unfold dRev at k1
    split at k1
    · rename_i ds hl
      obtain ⟨a', vs, h1, h2, h3, h4⟩ := g1.sqL r1 hl
      exact ⟨a', vs, h1, h2, fun q hq => new_lst n g1 h3.rev (by rw [List.length_reverse]; exact h4) hq k1⟩
    · exact False.elim k1⟩
end
end Pd
/-! Lists and dicts of the module; clauses of except that end otherwise. -/
namespace Pd
open PySem L2
/-! ### a list of the module -/
def txtV : Value → Option Str
  | .str x _ => some x
  | _ => none
/-- a list of texts of the module -/
structure KLst (K : PySem.W.Frag) (a : Addr) (xs : List Str) : Prop where
  at_ : ∃ (its : Array Value) (n : Nat), K.lookup a = some ⟨.type "list", none, .seq its n, #[]⟩ ∧ its.toList.map txtV = xs.map some
theorem vals_txt : ∀ {xs : List Str} {us : List Value}, us.map txtV = xs.map some → Vals (xs.map V.str) us
  | [], [], _ => .nil
  | x :: xs, u :: us, h => by
    rw [List.map_cons, List.map_cons] at h
    injection h with h1 h2
    refine .cons ?_ (vals_txt h2)
    cases u <;> simp only [txtV] at h1 <;> try cases h1
    exact ⟨_, rfl⟩
  | [], _ :: _, h => by cases h
  | _ :: _, [], h => by cases h
theorem dens_txt {Γ : Wd} {ρ : List Addr} {F : Hp} : ∀ {xs : List Str}, xs.all sok = true → Dens Γ ρ F (xs.map Dt.str) (xs.map V.str)
  | [], _ => by simp [Dens]
  | x :: xs, h => by
    rw [List.all_cons, Bool.and_eq_true] at h
    show Dens Γ ρ F (Dt.str x :: xs.map Dt.str) (V.str x :: xs.map V.str)
    simp only [Dens]
    exact ⟨_, _, rfl, by simp only [Den]; exact ⟨trivial, h.1⟩, dens_txt h.2⟩
section
variable {J : Cn} {X : Cx} {W : WX} {pos p1 p2 : Pos}
theorem es_glst {x : Str} {a : Addr} {xs : List Str} (hg : Gl X x) (hm : X.mg x = some (.ref a)) (k : KLst X.K a xs) (hs : xs.all sok = true := by decide +kernel) (hl : xs.length ≤ 1000 := by decide +kernel) (hd : (x == ("__debug__" : Str)) = false := by decide) : ES J X W (.Name x pos) (eC (.lsk (xs.map Dt.str))) := by
  refine es_c (v := .ref a) (pe_glob hg hm rfl hd) fun ρ F => ?_
  obtain ⟨its, n, h1, h2⟩ := k.at_
  simp only [Den]
  have hz : xs.length ≤ sizeLine := by rw [sizeLine_eq]; omega
  refine ⟨by rw [List.length_map]; exact hz, a, xs.map V.str, rfl, .inr ⟨_, its, n, h1, rfl, rfl, rfl, ?_, vals_txt h2⟩, dens_txt hs⟩
  have := congrArg List.length h2
  rw [List.length_map, List.length_map, Array.length_toList] at this
  omega
/-- two lists of the module, put together -/
theorem es_gcat {x y : Str} {a b : Addr} {xs ys : List Str} (hg : Gl X x) (hm : X.mg x = some (.ref a)) (k : KLst X.K a xs) (hg2 : Gl X y) (hm2 : X.mg y = some (.ref b)) (k2 : KLst X.K b ys) (hs : (xs ++ ys).all sok = true := by decide +kernel) (hl : xs.length + ys.length ≤ 1000 := by decide +kernel)
    (hd : (x == ("__debug__" : Str)) = false := by decide) (hd2 : (y == ("__debug__" : Str)) = false := by decide) : ES J X W (.BinOp (.Name x p1) .Add (.Name y p2) pos) (eC (.lst ((xs ++ ys).map Dt.str))) := by
  obtain ⟨its, n, h1, h2⟩ := k.at_
  obtain ⟨its2, n2, h3, h4⟩ := k2.at_
  have hz : xs.length + ys.length ≤ sizeLine := by rw [sizeLine_eq]; omega
  have e1 : its.size = xs.length := by
    have := congrArg List.length h2
    rw [List.length_map, List.length_map, Array.length_toList] at this
    exact this
  have e2 : its2.size = ys.length := by
    have := congrArg List.length h4
    rw [List.length_map, List.length_map, Array.length_toList] at this
    exact this
  have hr : OpR X (binaryOp .Add) (fun x y H Q => x = .ref a ∧ y = .ref b ∧ ∀ p, H p = none → Q (.ref p) (upd H p (.lst (xs.map V.str ++ ys.map V.str)))) := by
    intro pins s σ H x y v u Q I rx ry h
    obtain ⟨rfl, rfl, q⟩ := h
    cases rx
    cases ry
    refine PySem.P.add_list (items := its) (n := n) (items2 := its2) (n2 := n2) (I.kIn _ _ h1) (I.kIn _ _ h3) ?_ (by omega)
    have ea : its ++ its2 = (its.toList ++ its2.toList).toArray := by simp
    rw [ea]
    have r1 := (vals_txt h2).append (vals_txt h4)
    exact ⟨.ref _, _, I.lnew (t' := s.toks) r1 (by rw [List.length_append, List.length_map, List.length_map]; omega), rfl, q _ I.fresh⟩
  refine PE.imp (pe_op hr (pe_glob (v := .ref a) hg hm rfl hd) (pe_glob (v := .ref b) hg2 hm2 rfl hd2)) fun σ H Q ⟨env, ρ, F, s, g, l, k⟩ => ⟨rfl, rfl, fun p hp => ?_⟩
  have t : Dens (wd J X) ρ F ((xs ++ ys).map Dt.str) (xs.map V.str ++ ys.map V.str) := by rw [← List.map_append]; exact dens_txt hs
  exact new_lst (nw := nwF) (.inl rfl) g t (by rw [List.length_map, List.length_append]; exact hz) hp k
end
/-! ### NAME.get(k, x) of a dict of the module: texts and whole numbers -/
def intV : Value → Option Int
  | .int i _ => some i
  | _ => none
structure KTab (K : PySem.W.Frag) (w : World) (a : Addr) (tb : List (Str × Int)) : Prop where
  at_ : ∃ (es : Array DictEntry) (n : Nat), K.lookup a = some ⟨.type "dict", none, .dict es n, #[]⟩ ∧ (a == sysModules) = false ∧ es.toList.map He.keyOf = He.keysIn w.params (tb.map (·.1)) ∧ es.toList.map (fun e => intV e.val) = tb.map fun x => some x.2
theorem ktab_find {P : Params} : ∀ {es : List DictEntry} {tb : List (Str × Int)} (x : Str), es.map He.keyOf = He.keysIn P (tb.map (·.1)) → es.map (fun e => intV e.val) = (tb.map fun x => some x.2) →
    ((es.find? fun e => Value.isStrOf x e.key).map (·.val) = none ∧ tb.lookup x = none) ∨ ∃ i t, (es.find? fun e => Value.isStrOf x e.key).map (·.val) = some (.int i t) ∧ tb.lookup x = some i
  | [], [], x, _, _ => .inl ⟨rfl, rfl⟩
  | e :: es, (k, i) :: tb, x, h1, h2 => by
    have h1 : He.keyOf e :: es.map He.keyOf = some (k, PyData.keyHash P k) :: He.keysIn P (tb.map (·.1)) := h1
    have h2 : intV e.val :: es.map (fun e => intV e.val) = some i :: tb.map fun x => some x.2 := h2
    injection h1 with a1 a2
    injection h2 with b1 b2
    have ih := ktab_find x a2 b2
    obtain ⟨t, ek⟩ : ∃ t, e.key = .str k t := by
      unfold He.keyOf at a1
      split at a1
      · rename_i y t q
        have a3 := (Prod.mk.inj (Option.some.inj a1)).1
        exact ⟨t, by rw [q, a3]⟩
      · cases a1
    obtain ⟨t2, ev⟩ : ∃ t, e.val = .int i t := by
      cases hv : e.val <;> rw [hv] at b1 <;> simp only [intV] at b1 <;> try cases b1
      exact ⟨_, rfl⟩
    by_cases hx : x = k
    · subst hx
      refine .inr ⟨i, t2, ?_, by simp [List.lookup]⟩
      rw [List.find?_cons_of_pos (by rw [ek]; simp [Value.isStrOf])]
      simp [ev]
    · have n1 : ¬ Value.isStrOf x e.key = true := by
        rw [ek]
        simp only [Value.isStrOf, beq_iff_eq]
        first
        | exact hx
        | exact fun z => hx z.symm
      have n3 : (e :: es).find? (fun e => Value.isStrOf x e.key) = es.find? fun e => Value.isStrOf x e.key := List.find?_cons_of_neg n1
      rw [n3]
      have n2 : ((k, i) :: tb).lookup x = tb.lookup x := by
        have : (x == k) = false := by simpa using hx
        simp [List.lookup, this]
      rw [n2]
      exact ih
  | [], _ :: _, x, h, _ => by cases h
  | _ :: _, [], x, h, _ => by cases h
def eKget2 (tb : List (Str × Int)) (fe fx : Ex) : Ex := fun env => bnd (fe env) fun y => bnd (fx env) fun z s => match y with
  | .str x => .ok (((tb.lookup x).map Dt.int).getD z) s
  | _ => .bad
def tKget (tb : List (Str × Int)) (ty tx : TE) : TE := fun σ H Q => ty σ H fun y H2 => tx σ H2 fun z H3 => ∃ x, y = .str x ∧ Q (((tb.lookup x).map V.int).getD z) H3
section
variable {J : Cn} {X : Cx} {W : WX} {e e2 : Expr} {fe fx : Ex} {ty tx : TE} {pos p1 apos cpos : Pos}
theorem pe_kget2 {n : Str} {a : Addr} {tb : List (Str × Int)} (hg : Gl X n) (hm : X.mg n = some (.ref a)) (k : KTab X.K X.w a tb) (he : PE X e ty) (hx : PE X e2 tx) (m : M2 X (.Name n p1) "get" apos e e2 cpos) (hd : (n == ("__debug__" : Str)) = false) :
    PE X (.Call (.Attribute (.Name n p1) "get" apos) [e, e2] [] cpos) (tKget tb ty tx) := by
  obtain ⟨es, nn, h1, h2, h3, h4⟩ := k.at_
  refine ⟨fun pins s σ H Q I h => ?_⟩
  have ho : PE X (.Name n p1) (tC (.ref a)) := pe_glob hg hm rfl hd
  refine wpAny_Call_method m.base m.few m.line PySem.F.plainAttrs_dict PySem.F.slot_dict_get PySem.F.type_dict_get (thn (ho.run pins s σ H (fun v H' => v = .ref a ∧ H' = H) I ⟨rfl, rfl⟩) fun u s1 ⟨x, H1, I1, rx, ex, eh⟩ => ?_)
  subst ex
  subst eh
  obtain rfl : u = Value.ref a := rx
  have gd := I1.kIn a _ h1
  refine ⟨⟨_, gd, rfl⟩, ?_, ?_⟩
  · first
    | exact fun _ => ⟨_, gd, rfl⟩
    | exact ⟨_, gd, rfl⟩
    | exact fun b q => by cases q; exact ⟨_, gd, rfl⟩
  rw [m.trees]
  refine Calls.callWith_builtin rfl (Calls.evalArgs_plain (Calls.spliced_cons (thn (he.run pins s1 σ H1 _ I1 h) fun iv s2 ⟨y, H2, I2, ry, q2⟩ =>
    Calls.spliced_cons (thn (hx.run pins s2 σ H2 _ I2 q2) fun fv s3 ⟨z, H3, I3, rz, x, ey, q3⟩ => Calls.spliced_nil ?_))))
  subst ey
  obtain ⟨t, rfl⟩ := (show ∃ t, iv = Value.str x t from ry)
  have hmap : s3.heap.MapOf (strKind X.prog X.w) a (fun k => findBy Value.isStrOf es k) := PySem.W.mapOf_K I3.kIn h1 (He.keysLit_of h3)
  refine call_meetsIn PySem.F.slot_dict_get hmap.typeIs PySem.F.entry_dict_get (PySem.F.args_dict_get_3 _ _ _) (meets_dict_get_default (strKind X.prog X.w) a (strKind_is X.prog X.w x t) h2 fv) ⟨_, hmap, ?_⟩
  have ef : findBy Value.isStrOf es x = (es.toList.find? fun e => Value.isStrOf x e.key).map (·.val) := by
    unfold findBy
    rw [← Array.find?_toList]
  refine ⟨_, H3, I3.tok _, ?_, q3⟩
  rw [ef]
  rcases ktab_find x h3 h4 with ⟨c1, c2⟩ | ⟨i, t2, c1, c2⟩
  · rw [c1, c2]; exact rz
  · rw [c1, c2]; exact ⟨t2, rfl⟩
theorem es_kget2 {n : Str} {a : Addr} {tb : List (Str × Int)} (hg : Gl X n) (hm : X.mg n = some (.ref a)) (k : KTab X.K X.w a tb) (he : ES J X W e fe) (hx : ES J X W e2 fx) (m : M2 X (.Name n p1) "get" apos e e2 cpos := by exact ⟨rfl, rfl, rfl, rfl⟩) (hd : (n == ("__debug__" : Str)) = false := by decide) :
    ES J X W (.Call (.Attribute (.Name n p1) "get" apos) [e, e2] [] cpos) (eKget2 tb fe fx) :=
  PE.imp (pe_kget2 hg hm k he hx m hd) fun σ H Q ⟨env, ρ, F, s, g, l, k⟩ => ⟨env, ρ, F, s, g, l, Po.bind k fun y s1 ρ1 F1 H1 v e1 l1 g1 r1 k1 => ⟨env, ρ1, F1, s1, g1, l.mono l1, Po.bind k1 fun z s2 ρ2 F2 H2 u e2 l2 g2 r2 k2 => by
    cases y with
    | str x =>
      simp only [Den] at r1
      refine ⟨x, r1.1, ?_⟩
      refine k2 ρ2 F2 H2 _ LE.refl g2 ?_
      cases hq : tb.lookup x with
      | none => exact r2
      | some i => simp only [Option.map_some, Option.getD_some, Den]
    | _ => exact False.elim k2⟩⟩
end
/-! ### return without a value -/
section
variable {J : Cn} {X : Cx} {W : WX} {pos : Pos}
def sRet0 : Sx := fun _ s => .fl (.rt .non) s
theorem ss_ret0 : SS J X W (.Return none pos) sRet0 := PS.imp ps_retN fun D σ H ⟨env, ρ, F, s, g, l, k⟩ => k ρ F H _ LE.refl g (by simp only [Den])
end
/-! ### try: .. except C: raise E(..) from None -/
/-- errors of these classes are not taken by the clause of cv -/
def XnF (J : Cn) (K : PySem.W.Frag) (mg : Str → Option Value) (tb : List Nat) (cv : Value) : Prop := ∀ n, n ∈ tb → ∀ C, mg (J n).1 = some (.ref C) → PySem.W.exmOne K (.ref C) cv = some false
theorem xn_nil {J : Cn} {K : PySem.W.Frag} {mg : Str → Option Value} {cv : Value} : XnF J K mg [] cv := fun n h => nomatch h
theorem xn_cons {J : Cn} {K : PySem.W.Frag} {mg : Str → Option Value} {cv : Value} {n : Nat} {tb : List Nat} {C : Addr} (hC : mg (J n).1 = some (.ref C)) (hk : PySem.W.exmOne K (.ref C) cv = some false) (hr : XnF J K mg tb cv) : XnF J K mg (n :: tb) cv := fun m h C' hC' => by
  rcases List.mem_cons.mp h with e | h
  · subst e
    have z := hC.symm.trans hC'
    cases z
    exact hk
  · exact hr m h C' hC'
def sTryR (tb tn : List Nat) (c : Nat) (fb : Sx) : Sx := fun env s => match fb env s with
  | .exc c' env' s' => if c' ∈ tb then .exc c env' s' else if c' ∈ tn then .exc c' env' s' else .bad
  | r => r
section
variable {J : Cn} {X : Cx} {W : WX} {pos : Pos}
theorem pmk5_own {x m : Str} {j : Nat} {C : Addr} {bmB : List Value} {B newId initId : String} {p p2 pos : Pos} (F : ExcBaseFacts B newId initId bmB) (q : PySem.W.excIn X.K C bmB newId = true) (gC : X.mg x = some (.ref C)) (kC : PySem.W.keepIn X.K (.ref C) = true) (r : Raises X (.ref C)) (hg : Gl X x)
    (hdb : (x == ("__debug__" : Str)) = false := by decide) : L2H.PMk5 X (.Call (.Name x p) [.Constant (.str m) j p2] [] pos) (fun _ H Q => Q (.ref C) none H) := by
  intro pins s σ H Q I h
  refine wpAny_Call_Name_kw (ld_glob I hg gC ?_ hdb)
  have ha : PA X [.Constant (.str m) j p2] (tCons (tC (.str m)) tNil) := pa_cons pe_str pa_nil
  refine PySem.W.callWith_K (h₀ := X.base) I.ok.mod.kin kC (thn (ha.run pos pins s σ H (fun vs H1 => vs = [V.str m] ∧ H = H1) I ⟨rfl, rfl⟩) fun us s1 hh => ?_)
  obtain ⟨vs, H1, I1, r1, ev, eH⟩ := hh
  subst ev
  rw [← eH] at I1
  refine ⟨I1.kIn, ?_⟩
  cases r1 with
  | cons ru rn =>
    rename_i u us'
    cases rn
    show wpAny _ _ (call (.ref C) [u]) _ _ _
    obtain ⟨bm, N, nm, qn, bs, hdct, sn, sub, ab, col, dd, k0, k1, k2, k3, k5, mN, hC, hN, hni, T⟩ := exc_obj I1.kIn q
    refine wpAny_call_exc_subT F T hC hN hni (fun h' e hm => ?_) (by show 1 ≤ sizeLine; rw [sizeLine_eq]; omega)
    exact L2H.mk_of5 I1 hm r h (I1.hok.gone hm.new)
theorem ss_try_raise {x y m : Str} {cv : Value} {c : Nat} {C : Addr} {tb tn : List Nat} {bmB : List Value} {B newId initId : String} {body : List Stmt} {j j2 : Nat} {np pos' p p2 p3 p4 p5 : Pos} {fb : Sx} (hs : X.stack = X.env :: X.outer) (hf : X.env.frame = some X.env.locals) (hc : Names X x cv) (hpa : ∀ hd : Option Value, PassesOwnAt (model X.prog X.w) (X.A.mark hd) X.A X.env X.xe) (tk : Tks false X W)
    (hm : XmF J X.K X.mg tb cv) (hn : XnF J X.K X.mg tn cv)
    (hb : ∀ (W : WX) (pn : List (Addr × Obj)) (xe : Value → Shared → Prop), Tks true (X.tr pn xe) W → PassesOwn (model X.prog X.w) X.A X.env xe → SSs J (X.tr pn xe) W body fb)
    (hJ : (J c).1 = y) (Fx : ExcBaseFacts B newId initId bmB) (q : PySem.W.excIn X.K C bmB newId = true) (gC : X.mg y = some (.ref C)) (kC : PySem.W.keepIn X.K (.ref C) = true) (r : Raises X (.ref C)) (hg : Gl X y) (hdb : (y == ("__debug__" : Str)) = false := by decide) :
    SS J X W (.Try body [.ExceptHandler (some (.Name x np)) none [.Raise (some (.Call (.Name y p) [.Constant (.str m) j p2] [] p3)) (some (.Constant .none j2 p4)) p5] pos'] [] [] pos) (sTryR tb tn c fb) := by
  refine PS.imp (L2H.ps_try_onlyX (tb := fun W => tS (wd J X) W fb) (ts := fun a cls d _ σ H => W (.ref C) none σ H) hs hf hc hpa tk (fun W pn xe t1 t2 po => hb W pn xe t1 po) (fun a oe cls d pn hz he t hot => pss_one (L2H.ps_raiseHN hot t (pmk5_own Fx q gC kC r hg hdb)))) fun D σ H ⟨env, ρ, F, s, g, l, k⟩ => ⟨env, ρ, F, s, g, l, ?_⟩
  unfold sTryR at k
  cases er : fb env s with
  | fl f s1 => rw [er] at k; cases f <;> exact k
  | bad => rw [er] at k; exact k
  | exc cn env1 s1 =>
    rw [er] at k
    simp only [] at k
    intro ρ1 F1 H1 σ1 C1 l1 g1 sl1 hC
    split at k
    · rename_i hq
      exact ⟨true, hm cn hq C1 hC, fun _ a ha => k ρ1 F1 H1 σ1 C l1 g1 sl1 (by show X.mg (J c).1 = _; rw [hJ]; exact gC), fun z => nomatch z⟩
    · split at k
      · rename_i hq
        exact ⟨false, hn cn hq C1 hC, (fun z => nomatch z), fun _ => k ρ1 F1 H1 σ1 C1 l1 g1 sl1 hC⟩
      · exact False.elim k
/-! ### try: .. except C: some more -/
def sTryS (tb tn : List Nat) (fb fs : Sx) : Sx := fun env s => match fb env s with
  | .exc c' env' s' => if c' ∈ tb then (match fs env' s' with | .fl f s2 => .fl f s2 | _ => .bad) else if c' ∈ tn then .exc c' env' s' else .bad
  | r => r
theorem ss_try_suite {x : Str} {cv : Value} {tb tn : List Nat} {body suite : List Stmt} {b₀ : Stmt} {np pos' : Pos} {fb fs : Sx} (hs : X.stack = X.env :: X.outer) (hf : X.env.frame = some X.env.locals) (hc : Names X x cv) (tk : Tks false X W)
    (hm : XmF J X.K X.mg tb cv) (hn : XnF J X.K X.mg tn cv)
    (hb : ∀ (W : WX) (pn : List (Addr × Obj)) (xe : Value → Shared → Prop), Tks false (X.tr pn xe) W → PassesOwn (model X.prog X.w) X.A X.env xe → SSs J (X.tr pn xe) W body fb)
    (hsu : ∀ (a : Addr) (oe : Obj) (pn : List (Addr × Obj)), SSs J (X.suite a ((a, oe) :: pn)) W0 (b₀ :: suite) fs) :
    SS J X W (.Try body [.ExceptHandler (some (.Name x np)) none (b₀ :: suite) pos'] [] [] pos) (sTryS tb tn fb fs) := by
  refine PS.imp (L2.ps_try_only (tb := fun W => tS (wd J X) W fb) (ts := fun a cls d => tS (wd J X) W0 fs) hs hf hc tk (fun W pn xe t1 po => hb W pn xe t1 po) (fun a oe cls d pn hz he => hsu a oe pn)) fun D σ H ⟨env, ρ, F, s, g, l, k⟩ => ⟨env, ρ, F, s, g, l, ?_⟩
  unfold sTryS at k
  cases er : fb env s with
  | fl f s1 => rw [er] at k; cases f <;> exact k
  | bad => rw [er] at k; exact k
  | exc cn env1 s1 =>
    rw [er] at k
    simp only [] at k
    intro ρ1 F1 H1 σ1 C1 l1 g1 sl1 hC
    split at k
    · rename_i hq
      refine ⟨true, hm cn hq C1 hC, fun _ a ha => ⟨env1, ρ1, F1, s1, g1, sl1, ?_⟩, fun z => nomatch z⟩
      cases ef : fs env1 s1 with
      | fl f s2 =>
        rw [ef] at k
        have k := FPo.le l1 k
        cases f <;> exact k
      | exc c2 e2 s2 => rw [ef] at k; exact False.elim k
      | bad => rw [ef] at k; exact False.elim k
    · split at k
      · rename_i hq
        exact ⟨false, hn cn hq C1 hC, (fun z => nomatch z), fun _ => k ρ1 F1 H1 σ1 C1 l1 g1 sl1 hC⟩
      · exact False.elim k
end
end Pd
/-! sorted(set(xs)) of texts -/
namespace Pd
open PySem L2
theorem nodup_perm {α : Type} : ∀ {a b : List α}, a.Nodup → (∀ x ∈ a, x ∈ b) → b.length = a.length → a.Perm b
  | [], b, _, _, hl => by rw [List.length_eq_zero_iff.mp hl]
  | x :: a, b, nd, hs, hl => by
    obtain ⟨b1, b2, e⟩ := List.append_of_mem (hs x List.mem_cons_self)
    rw [List.nodup_cons] at nd
    subst e
    have ih := nodup_perm (a := a) (b := b1 ++ b2) nd.2 (fun y hy => by
      have h1 := hs y (List.mem_cons_of_mem _ hy)
      rcases List.mem_append.mp h1 with h2 | h2
      · exact List.mem_append_left _ h2
      · rcases List.mem_cons.mp h2 with h3 | h3
        · rw [h3] at hy; exact absurd hy nd.1
        · exact List.mem_append_right _ h3) (by simp at hl ⊢; omega)
    exact (ih.cons x).trans List.perm_middle.symm
theorem uniq_nodup (xs : List Str) : (uniq xs).Nodup := by
  have go : ∀ (l a : List Str), a.Nodup → (l.foldl (fun a x => if x ∈ a then a else a ++ [x]) a).Nodup := by
    intro l
    induction l with
    | nil => intro a h; exact h
    | cons x l ih =>
      intro a h
      rw [List.foldl_cons]
      refine ih _ ?_
      split
      · exact h
      · rename_i hx
        refine List.nodup_append.mpr ⟨h, by simp, fun y hy z hz => ?_⟩
        rw [List.mem_singleton] at hz
        rw [hz]
        intro e
        subst e
        exact hx hy
  exact go xs [] List.nodup_nil
def tSortTx (K : PySem.W.Frag) (ta : TE) : TE := fun σ H Q => ta σ H fun x H1 => ∃ l, ∃ xs : List Str, x = .ref l ∧ SqL K H1 l (xs.map V.str) ∧ xs.length ≤ 4000 ∧ SortQ H1 ((uniq xs).map V.str) (fun v => match v with | .str z => [Sum.inr z] | _ => []) Q
theorem Inv.gens {X : Cx} {pins : List (Addr × Obj)} {σ : St} {H : Hp} {s s1 : Shared} (I : Inv X pins σ H s) (keep : ∀ b o, s.heap.get? b = some o → s1.heap.get? b = some o) (hg : s1.gens = s.gens) (ho : s1.os = s.os) : Inv X pins σ H s1 := by
  have J : Inv X pins σ H { s with heap := s1.heap, toks := s1.toks } := I.kept keep
  exact { ok := J.ok, os := by rw [ho]; exact J.os, bare := by rw [hg]; exact J.bare, base := J.base, loc := J.loc, cell := J.cell, free := J.free, freeC := J.freeC, pin := J.pin, hok := J.hok, len := J.len }
section
variable {J : Cn} {X : Cx} {W : WX} {a e : Expr} {fa fe : Ex} {p p2 q pos p1 p3 : Pos}
open PySem.Spec PyProof.Rows in
theorem pe_sortTx {ta : TE} (hc : X.calm = true) (hg : Gl X "sorted") (hm : X.mg "sorted" = none) (hg2 : Gl X "set") (hm2 : X.mg "set" = none) (ha : PE X a ta)
    (na : starEach [a] X.env = (false, eval a X.env) :: starEach [] X.env := by rfl) : PE X (.Call (.Name "sorted" p) [.Call (.Name "set" p2) [a] [] q] [] pos) (tSortTx X.K ta) := by
  refine ⟨fun pins s σ H Q I h => ?_⟩
  have bs : bootBuiltins (Str.ofString "sorted") = some (Value.builtin "sorted") := by decide +kernel
  refine Call_ (ld_blt I hg hm bs ?_)
  refine PyProof.Rows.callWith_builtin1 (PyProof.Rows.args_cons ?_ rfl) rfl rfl
  refine Call_ (ld_blt I hg2 hm2 boot_set ?_)
  refine PyProof.Rows.callWith_type1 (PyProof.Rows.args_cons (thn (ha.run pins s σ H _ I h) fun v s1 ⟨x, H1, I1, r1, q1⟩ => PyProof.Rows.args_nil ?_) na) na rfl
  obtain ⟨l, xs, rfl, hq, h1, q1⟩ := q1
  cases r1
  obtain ⟨its, r, pl, hz⟩ := I1.list hq
  refine call_set_txt (I1.ok.hd hc) pl.isList (by simpa using strsAre_of r) (by unfold scanBound; omega) fun h' tk ts hk => ?_
  refine PyProof.Rows.args_nil ?_
  have ul := uniq_len xs
  obtain ⟨ob, es, ep, tb, ho, hx, hd, hel, hmem, hsz, hf, hn, hr, hled⟩ := ts
  have I2 : Inv X pins σ H1 { s1 with heap := h', toks := tk } := I1.kept fun b o e => hk b o (Heap.lt_size e) e
  refine sort_tail (md := .s) I2 (xs := (uniq xs).map V.str) (k := fun v => match v with | .str z => [Sum.inr z] | _ => []) ?_ (by rw [List.length_map, sizeLine_eq]; omega) q1 fun R E hR => ?_
  · intro x hx
    obtain ⟨z, _, rfl⟩ := List.mem_map.mp hx
    exact ⟨z, rfl, rfl⟩
  · refine collect_set (s := { s1 with heap := h', toks := tk }) (I1.ok.hd hc) ⟨ob, ho, hx.1, hd⟩ hf hsz hr hled fun s2 out kp _ hg ho2 pm => ?_
    have allT : ∀ v ∈ out, ∃ z t, v = Value.str z t ∧ z ∈ uniq xs := fun v hv => by
      obtain ⟨x, hx, rfl⟩ := List.mem_map.mp (pm.mem_iff.mp hv)
      obtain ⟨⟨k, k1, k2⟩, _⟩ := hel x hx
      have k3 : decide (k ∈ uniq xs) = true := (hmem k).mpr ⟨x, hx, k1⟩
      obtain ⟨t, ht⟩ := Value.isStrOf_shape (show Value.isStrOf k x.2 = true from k1)
      exact ⟨k, t, ht, by simpa using k3⟩
    obtain ⟨zs, hzs, hzm⟩ : ∃ zs : List Str, Vals (zs.map V.str) out ∧ (∀ z, (∃ t, Value.str z t ∈ out) ↔ z ∈ zs) ∧ zs.length = out.length := by
      clear pm
      induction out with
      | nil => exact ⟨[], .nil, by simp, rfl⟩
      | cons v out ih =>
        obtain ⟨zs, h1, h2, h3⟩ := ih fun v hv => allT v (List.mem_cons_of_mem _ hv)
        obtain ⟨z, t, rfl, _⟩ := allT v List.mem_cons_self
        refine ⟨z :: zs, .cons ⟨t, rfl⟩ h1, fun y => ?_, by simp [h3]⟩
        constructor
        · rintro ⟨u, hu⟩
          rcases List.mem_cons.mp hu with e | e
          · cases e; exact List.mem_cons_self
          · exact List.mem_cons_of_mem _ ((h2 y).mp ⟨u, e⟩)
        · intro hy
          rcases List.mem_cons.mp hy with e | e
          · subst e; exact ⟨t, List.mem_cons_self⟩
          · obtain ⟨u, hu⟩ := (h2 y).mpr e
            exact ⟨u, List.mem_cons_of_mem _ hu⟩
    have perm : (uniq xs).Perm zs := by
      refine nodup_perm (uniq_nodup xs) (fun z hz => ?_) ?_
      · obtain ⟨x, hx, k1⟩ := (hmem z).mp (by simpa using hz)
        obtain ⟨t, ht⟩ := Value.isStrOf_shape (show Value.isStrOf z x.2 = true from k1)
        exact (hzm.1 z).mp ⟨t, pm.mem_iff.mpr (List.mem_map.mpr ⟨x, hx, ht⟩)⟩
      · rw [hzm.2, pm.length_eq, List.length_map, Array.length_toList, hn]
    exact hR s2 (zs.map V.str) out (Pd.Inv.gens I2 kp hg ho2) (perm.symm.map _) hzs
def dSortTx (nw : List Dt → Sto → Out Dt) (d : Dt) (s : Sto) : Out Dt := match asL s d with
  | some l => match txtsD l with
    | some xs => if xs.length ≤ 4000 then nw ((sortK (fun x : Str => [Sum.inr x]) (uniq xs)).map Dt.str) s else .bad
    | none => .bad
  | none => .bad
theorem es_sortTx {nw : List Dt → Sto → Out Dt} (n : IsNw nw) (hc : X.calm = true) (hg : Gl X "sorted") (hm : X.mg "sorted" = none) (hg2 : Gl X "set") (hm2 : X.mg "set" = none) (ha : ES J X W a fa)
    (na : starEach [a] X.env = (false, eval a X.env) :: starEach [] X.env := by rfl) : ES J X W (.Call (.Name "sorted" p) [.Call (.Name "set" p2) [a] [] q] [] pos) (eUn (dSortTx nw) fa) :=
  PE.imp (pe_sortTx hc hg hm hg2 hm2 ha na) fun σ H Q ⟨env, ρ, F, s, g, l, k⟩ => ⟨env, ρ, F, s, g, l, Po.bind k fun x s1 ρ1 F1 H1 v e1 l1 g1 r1 k1 => by
    unfold dSortTx at k1
    split at k1
    · rename_i ds hl
      split at k1
      · rename_i xs hx
        split at k1
        · rename_i hz
          obtain ⟨a', vs, h1, h2, h3, h4⟩ := g1.sqL r1 hl
          have ev := h3.txts hx
          refine ⟨a', xs, h1, by rw [← ev]; exact h2, hz, fun ys p hs hp hn => ?_⟩
          -- the only list in order
          have eu : ys = (sortK (fun x : Str => [Sum.inr x]) (uniq xs)).map V.str := by
            refine sorted_unique (fun v : V => match v with | .str z => [Sum.inr z] | _ => []) (hp.trans ((sortK_perm _ _).symm.map _)) (fun a ha b hb e => ?_) hs ?_
            · obtain ⟨x, _, rfl⟩ := List.mem_map.mp (hp.mem_iff.mp ha)
              obtain ⟨y, _, rfl⟩ := List.mem_map.mp (hp.mem_iff.mp hb)
              simp only [List.cons.injEq, Sum.inr.injEq, and_true] at e
              rw [e]
            · exact List.pairwise_map.mpr (sortK_sorted (fun x : Str => [Sum.inr x]) (uniq xs))
          have sk : ∀ y ∈ uniq xs, sok y = true := fun y hy => by
            rw [uniq_mem] at hy
            have : ∀ {ds : List Dt} {vs : List V} {xs : List Str}, Dens (wd J X) ρ1 F1 ds vs → txtsD ds = some xs → ∀ y ∈ xs, sok y = true := by
              intro ds
              induction ds with
              | nil => intro vs xs _ h y hy; simp only [txtsD, Option.some.injEq] at h; subst h; cases hy
              | cons d ds ih =>
                intro vs xs hd h y hy
                simp only [Dens] at hd
                obtain ⟨v, r, _, q, t⟩ := hd
                cases d with
                | str z =>
                  simp only [txtsD] at h
                  obtain ⟨zs, hz1, hz2⟩ := Option.map_eq_some_iff.mp h
                  subst hz2
                  simp only [Den] at q
                  rcases List.mem_cons.mp hy with e | hy
                  · rw [e]; exact q.2
                  · exact ih t hz1 y hy
                | _ => simp [txtsD] at h
            exact this h3 hx y hy
          have ul := uniq_len xs
          have dn : Dens (wd J X) ρ1 F1 ((sortK (fun x : Str => [Sum.inr x]) (uniq xs)).map Dt.str) ys := by
            rw [eu]
            refine dens_txt (List.all_eq_true.mpr fun y hy => sk y ((sortK_perm _ _).mem_iff.mp hy))
          exact new_lst n g1 dn (by rw [List.length_map, (sortK_perm _ _).length_eq, sizeLine_eq]; omega) hn k1
        · exact False.elim k1
      · exact False.elim k1
    · exact False.elim k1⟩
end
end Pd
/-! Dicts with deep keys. -/
namespace Pd
open PySem L2
mutual
theorem nk_is {X : Cx} {pins : List (Addr × Obj)} {σ : St} {H : Hp} {s : Shared} {Γ : Wd} {ρ : List Addr} {F : Hp} (I : Inv X pins σ H s) (sub : ∀ a o, F a = some o → H a = some o) : ∀ (d : Dt) (v : V) (u : Value) (k : NestedKey), Den Γ ρ F d v → nkD d = some k → RelV v u → NestedIs s.heap k u
  | .non, v, u, k, h, e, r => by
    simp only [Den] at h; subst h
    simp only [nkD, Option.some.injEq] at e; subst e
    cases r; exact .none
  | .bl b, v, u, k, h, e, r => by
    simp only [Den] at h; subst h
    simp only [nkD, Option.some.injEq] at e; subst e
    cases r; exact .bool rfl
  | .int i, v, u, k, h, e, r => by
    simp only [Den] at h; subst h
    simp only [nkD, Option.some.injEq] at e; subst e
    obtain ⟨t, rfl⟩ := (show ∃ t, u = Value.int i t from r)
    exact .int i t
  | .str x, v, u, k, h, e, r => by
    simp only [Den] at h
    obtain ⟨h, _⟩ := h
    subst h
    simp only [nkD, Option.some.injEq] at e; subst e
    obtain ⟨t, rfl⟩ := (show ∃ t, u = Value.str x t from r)
    exact .text x t
  | .tup l, v, u, k, h, e, r => by
    simp only [Den] at h
    obtain ⟨_, a, xs, rfl, q, t⟩ := h
    simp only [nkD, Option.map_eq_some_iff] at e
    obtain ⟨ks, e1, rfl⟩ := e
    obtain rfl : u = Value.ref a := r
    obtain ⟨its, r1, p1, _⟩ := I.tuple (SqT.of (K := X.K) (sub _ _ q))
    obtain ⟨ob, ho, hc, n, hd⟩ := p1
    exact .tup ho hc hd (by simpa using nk_are I sub l xs its ks t e1 r1)
  | .lst _, v, u, k, h, e, r => by simp [nkD] at e
  | .lsk _, v, u, k, h, e, r => by simp [nkD] at e
  | .obj _, v, u, k, h, e, r => by simp [nkD] at e
  | .exc _, v, u, k, h, e, r => by simp [nkD] at e
theorem nk_are {X : Cx} {pins : List (Addr × Obj)} {σ : St} {H : Hp} {s : Shared} {Γ : Wd} {ρ : List Addr} {F : Hp} (I : Inv X pins σ H s) (sub : ∀ a o, F a = some o → H a = some o) : ∀ (ds : List Dt) (vs : List V) (us : List Value) (ks : List NestedKey), Dens Γ ρ F ds vs → nkDs ds = some ks → Vals vs us → NestedAll s.heap ks us
  | [], vs, us, ks, h, e, r => by
    simp only [Dens] at h; subst h
    simp only [nkDs, Option.some.injEq] at e; subst e
    cases r; exact .nil
  | d :: ds, vs, us, ks, h, e, r => by
    simp only [Dens] at h
    obtain ⟨v, vr, rfl, q, t⟩ := h
    simp only [nkDs] at e
    split at e
    · rename_i k ks' e1 e2
      cases e
      cases r with
      | cons ru rt => exact .cons (nk_is I sub d v _ k q e1 ru) (nk_are I sub ds vr _ ks' t e2 rt)
    · cases e
end
section
variable {X : Cx} {pins : List (Addr × Obj)} {σ : St} {H : Hp} {s : Shared} {Γ : Wd} {ρ : List Addr} {F : Hp} {a : Addr}
theorem DenN.fst : ∀ {ds : List (NestedKey × Dt)} {es : List (NestedKey × Addr × Value)}, DenN Γ ρ F ds es → es.map (·.1) = ds.map (·.1)
  | [], es, h => by rw [show es = [] from h]; rfl
  | (k, d) :: ds, es, h => by
    obtain ⟨b, u, v, dk, t, rfl, _, _, _, _, h5⟩ := h
    rw [List.map_cons, List.map_cons, DenN.fst h5]
theorem DenN.keys (I : Inv X pins σ H s) (sub : ∀ a o, F a = some o → H a = some o) : ∀ {ds : List (NestedKey × Dt)} {es : List (NestedKey × Addr × Value)}, DenN Γ ρ F ds es → (∀ kv ∈ ds, kv.1.depth ≤ 8) → ∀ x ∈ es, (nestedKind X.prog X.w).is s.heap x.1 x.2.1
  | [], es, h, _, x, hx => by rw [show es = [] from h] at hx; cases hx
  | (k, d) :: ds, es, h, hd, x, hx => by
    obtain ⟨b, u, v, dk, t, rfl, h1, h2, _, _, h5⟩ := h
    rcases List.mem_cons.mp hx with e | hx
    · subst e
      exact ⟨nk_is I sub dk (.ref b) (.ref b) k h2 h1 rfl, hd _ List.mem_cons_self⟩
    · exact DenN.keys I sub h5 (fun kv hk => hd kv (List.mem_cons_of_mem _ hk)) x hx
/-- what stands at a dict of deep keys -/
theorem nd_of (I : Inv X pins σ H s) (hw : Γ.w = X.w) (sub : ∀ a o, F a = some o → H a = some o) {kvs : List (NestedKey × Dt)} (m : MoOk Γ ρ F H a (.did kvs)) : ∃ es, DenN Γ ρ F kvs es ∧ s.heap.DictOfH (nestedKind X.prog X.w) a es ∧ (a == sysModules) = false ∧ H a = some (NdO X.w a es) := by
  obtain ⟨⟨z, nd, dp⟩, y, es, h, q⟩ := m
  rw [hw] at h
  obtain ⟨ob, ents, ep, h1, h2, h3, h4⟩ := (I.hok a _ h).1
  exact ⟨es, q, ⟨ob, ents, ep, h1, h2, h3, h4, DenN.keys I sub q dp, by rw [q.fst]; exact nd⟩, y, h⟩
theorem DenN.val : ∀ {ds : List (NestedKey × Dt)} {es : List (NestedKey × Addr × Value)} (k : NestedKey), DenN Γ ρ F ds es → (valA ds k = none ∧ atKey es k = none) ∨ ∃ d v u b, valA ds k = some d ∧ atKey es k = some (b, u) ∧ RelV v u ∧ Den Γ ρ F d v
  | [], es, k, h => by rw [show es = [] from h]; exact .inl ⟨rfl, rfl⟩
  | (j, d) :: ds, es, k, h => by
    obtain ⟨b, u, v, dk, t, rfl, _, _, h3, h4, h5⟩ := h
    have ih := DenN.val k h5
    by_cases e : j = k
    · subst e
      exact .inr ⟨d, v, u, b, by simp [valA], by simp [atKey], h3, h4⟩
    · have e1 : valA ((j, d) :: ds) k = valA ds k := by simp [valA, e]
      have e2 : atKey ((j, b, u) :: t) k = atKey t k := by simp [atKey, e]
      rw [e1, e2]
      exact ih
theorem DenN.put {d : Dt} {v : V} {u : Value} {k : NestedKey} {b : Addr} {dk : Dt} (hk : nkD dk = some k) (hb : Den Γ ρ F dk (.ref b)) (hu : RelV v u) (hv : Den Γ ρ F d v) {ds : List (NestedKey × Dt)} {es : List (NestedKey × Addr × Value)} (h : DenN Γ ρ F ds es) : DenN Γ ρ F (putA ds k d) (storedH es k b u) := by
  have hx : (atKey es k).isSome = (valA ds k).isSome := by
    rcases DenN.val k h with ⟨h1, h2⟩ | ⟨_, _, _, _, h1, h2, _⟩ <;> rw [h1, h2] <;> rfl
  have ha : (ds.any fun kv => decide (kv.1 = k)) = (valA ds k).isSome := by
    unfold valA
    rw [Option.isSome_map, List.isSome_find?]
  unfold putA storedH
  rw [ha, hx]
  by_cases hs : (valA ds k).isSome = true
  · rw [if_pos hs, if_pos hs]
    clear hs hx ha
    induction ds generalizing es with
    | nil => rw [show es = [] from h]; exact rfl
    | cons p ds ih =>
      obtain ⟨j, d0⟩ := p
      obtain ⟨b0, u0, v0, dk0, t, rfl, h1, h2, h3, h4, h5⟩ := h
      rw [List.map_cons, List.map_cons]
      by_cases e : j = k
      · subst e
        rw [if_pos rfl]
        refine ⟨b0, u, v, dk0, _, ?_, h1, h2, hu, hv, ih h5⟩
        simp [PySem.putAt]
      · rw [if_neg e]
        refine ⟨b0, u0, v0, dk0, _, ?_, h1, h2, h3, h4, ih h5⟩
        simp [PySem.putAt, e]
  · rw [if_neg hs, if_neg hs]
    clear hs hx ha
    induction ds generalizing es with
    | nil =>
      rw [show es = [] from h]
      exact ⟨b, u, v, dk, [], rfl, hk, hb, hu, hv, rfl⟩
    | cons p ds ih =>
      obtain ⟨j, d0⟩ := p
      obtain ⟨b0, u0, v0, dk0, t, rfl, h1, h2, h3, h4, h5⟩ := h
      exact ⟨b0, u0, v0, dk0, _, rfl, h1, h2, h3, h4, ih h5⟩
end
/-! ### reading and writing by deep keys -/
def didAt (s : Sto) : Dt → Option (Nat × List (NestedKey × Dt))
  | .obj i => match s[i]? with
    | some (.did kvs) => some (i, kvs)
    | _ => none
  | _ => none
def nkT : Dt → Option NestedKey
  | .tup l => (nkD (.tup l)).bind fun k => if k.depth ≤ 8 then some k else none
  | _ => none
theorem nkT_some {d : Dt} {k : NestedKey} (h : nkT d = some k) : nkD d = some k ∧ k.depth ≤ 8 ∧ ∃ l, d = .tup l := by
  cases d with
  | tup l =>
    simp only [nkT, Option.bind_eq_some_iff] at h
    obtain ⟨k', h1, h2⟩ := h
    split at h2
    · rename_i hd
      cases h2
      exact ⟨h1, hd, l, rfl⟩
    · cases h2
  | _ => simp [nkT] at h
def dNget (x y : Dt) (s : Sto) : Out Dt := match didAt s x, nkT y with
  | some (_, kvs), some k => match valA kvs k with
    | some d => .ok d s
    | none => .bad
  | _, _ => .bad
def dNnotIn (y x : Dt) (s : Sto) : Out Dt := match didAt s x, nkT y with
  | some (_, kvs), some k => .ok (.bl (!(valA kvs k).isSome)) s
  | _, _ => .bad
def dNin (y x : Dt) (s : Sto) : Out Dt := match didAt s x, nkT y with
  | some (_, kvs), some k => .ok (.bl (valA kvs k).isSome) s
  | _, _ => .bad
theorem G.didAt {Γ : Wd} {ρ : List Addr} {F H : Hp} {s : Sto} (g : G Γ ρ F s H) {d : Dt} {v : V} {i : Nat} {kvs : List (NestedKey × Dt)} (r : Den Γ ρ F d v) (h : didAt s d = some (i, kvs)) : ∃ a, v = .ref a ∧ ρ[i]? = some a ∧ s[i]? = some (.did kvs) ∧ MoOk Γ ρ F H a (.did kvs) := by
  cases d with
  | obj j =>
    simp only [Den] at r
    obtain ⟨a, e1, q⟩ := r
    simp only [Pd.didAt] at h
    split at h
    · rename_i l hs
      cases h
      exact ⟨a, e1, q, hs, g.at_ _ a _ q hs⟩
    · cases h
  | _ => simp [Pd.didAt] at h
section
variable {J : Cn} {X : Cx} {W : WX} {a b e e2 : Expr} {fa fb fe fo fi fv : Ex} {pos p1 apos cpos : Pos}
abbrev OkN (X : Cx) (x y : V) (H : Hp) (kvs : List (NestedKey × Dt)) (k : NestedKey) (i : Nat) (Γ : Wd) (ρ : List Addr) (F : Hp) (s : Sto) (dy : Dt) : Prop := ∃ ad b, x = .ref ad ∧ y = .ref b ∧ G Γ ρ F s H ∧ Γ.w = X.w ∧ ρ[i]? = some ad ∧ s[i]? = some (.did kvs) ∧ MoOk Γ ρ F H ad (.did kvs) ∧ Den Γ ρ F dy (.ref b) ∧ nkD dy = some k ∧ k.depth ≤ 8
theorem okN_of {x y : V} {H : Hp} {Γ : Wd} {ρ : List Addr} {F : Hp} {s : Sto} {dx dy : Dt} {i : Nat} {kvs : List (NestedKey × Dt)} {k : NestedKey} (hw : Γ.w = X.w) (g : G Γ ρ F s H) (rx : Den Γ ρ F dx x) (ry : Den Γ ρ F dy y) (h1 : didAt s dx = some (i, kvs)) (h2 : nkT dy = some k) : OkN X x y H kvs k i Γ ρ F s dy := by
  obtain ⟨ad, e1, e2, e3, e4⟩ := g.didAt rx h1
  obtain ⟨k1, k2, l, k3⟩ := nkT_some h2
  subst k3
  have ry2 := ry
  simp only [Den] at ry
  obtain ⟨_, b, xs, e5, _⟩ := ry
  subst e5
  exact ⟨ad, b, e1, rfl, g, hw, e2, e3, e4, ry2, k1, k2⟩
def rNotN (X : Cx) (J : Cn) (neg : Bool) : R2 := fun y x H Q => ∃ kvs k i ρ F s dy, OkN X x y H kvs k i (wd J X) ρ F s dy ∧ Q (.bl (if neg = true then !(valA kvs k).isSome else (valA kvs k).isSome)) H
theorem atKey_isSome {Γ : Wd} {ρ : List Addr} {F : Hp} {ds : List (NestedKey × Dt)} {es : List (NestedKey × Addr × Value)} (k : NestedKey) (h : DenN Γ ρ F ds es) : (atKey es k).isSome = (valA ds k).isSome := by
  rcases DenN.val k h with ⟨h1, h2⟩ | ⟨_, _, _, _, h1, h2, _⟩ <;> rw [h1, h2] <;> rfl
theorem op_notN (hu : X.A.units + 65 < cLine) : OpR X (compareOp .NotIn) (rNotN X J true) := by
  intro pins s σ H y x v u Q I ry rx h
  obtain ⟨kvs, k, i, ρ, F, st, dy, ⟨ad, b, rfl, rfl, g, hw, hi, hs, m, hy, hk, hd⟩, q⟩ := h
  obtain rfl : v = Value.ref b := ry
  obtain rfl : u = Value.ref ad := rx
  obtain ⟨es, h1, h2, h3, h4⟩ := nd_of I hw g.sub m
  refine PyProof.Rows.wpAny_notIn_heap (knd := nestedKind X.prog X.w) (show X.A.in1.units + 8 < cLine by show X.A.units + 1 + 8 < cLine; omega) ⟨nk_is I g.sub dy (.ref b) (.ref b) k hy hk rfl, hd⟩ h3 h2 ?_
  rw [atKey_isSome k h1]
  exact ⟨.bl (!(valA kvs k).isSome), H, I.tok _, rfl, q⟩
theorem op_inN (hu : X.A.units + 65 < cLine) : OpR X (compareOp .In) (rNotN X J false) := by
  intro pins s σ H y x v u Q I ry rx h
  obtain ⟨kvs, k, i, ρ, F, st, dy, ⟨ad, b, rfl, rfl, g, hw, hi, hs, m, hy, hk, hd⟩, q⟩ := h
  obtain rfl : v = Value.ref b := ry
  obtain rfl : u = Value.ref ad := rx
  obtain ⟨es, h1, h2, h3, h4⟩ := nd_of I hw g.sub m
  refine wpAny_in_heap (knd := nestedKind X.prog X.w) (show X.A.in1.units + 8 < cLine by show X.A.units + 1 + 8 < cLine; omega) ⟨nk_is I g.sub dy (.ref b) (.ref b) k hy hk rfl, hd⟩ h3 h2 ?_
  rw [atKey_isSome k h1]
  exact ⟨.bl (valA kvs k).isSome, H, I.tok _, rfl, q⟩
theorem c_notN (hu : X.A.units + 65 < cLine) : CmpOk J X .NotIn dNnotIn := ⟨_, op_notN hu, fun ρ F s H y x dy dx Q E g ry rx k => by
  unfold dNnotIn at k
  split at k
  · rename_i i kvs kk h1 h2
    exact ⟨kvs, kk, i, ρ, F, s, dy, okN_of (X := X) rfl g rx ry h1 h2, k ρ F H _ LE.refl g (by simp only [Den, if_true])⟩
  · exact False.elim k⟩
theorem c_inN (hu : X.A.units + 65 < cLine) : CmpOk J X .In dNin := ⟨_, op_inN hu, fun ρ F s H y x dy dx Q E g ry rx k => by
  unfold dNin at k
  split at k
  · rename_i i kvs kk h1 h2
    exact ⟨kvs, kk, i, ρ, F, s, dy, okN_of (X := X) rfl g rx ry h1 h2, k ρ F H _ LE.refl g (by simp only [Den, Bool.false_eq_true, if_false])⟩
  · exact False.elim k⟩
/-- d[k] -/
def rIxN (X : Cx) (J : Cn) : R2 := fun x y H Q => ∃ kvs k i ρ F s dy d, OkN X x y H kvs k i (wd J X) ρ F s dy ∧ valA kvs k = some d ∧ ∀ v, Den (wd J X) ρ F d v → Q v H
theorem ix_N (hu : X.A.units + 65 < cLine) : IxR X (rIxN X J) := by
  intro value slice pins s σ H x y v u Q I rx ry h hs
  obtain ⟨kvs, k, i, ρ, F, st, dy, d, ⟨ad, b, rfl, rfl, g, hw, hi, hst, m, hy, hk, hd⟩, hv, q⟩ := h
  obtain rfl : v = Value.ref ad := rx
  obtain rfl : u = Value.ref b := ry
  obtain ⟨es, h1, h2, h3, h4⟩ := nd_of I hw g.sub m
  rcases DenN.val k h1 with ⟨c1, _⟩ | ⟨d', v', u', b', c1, c2, c3, c4⟩
  · rw [c1] at hv; cases hv
  · rw [c1] at hv
    cases hv
    exact PyProof.Rows.tail_any h2.typeIs slot_dict_getitem.lookup (wpAny_getItem_heap (knd := nestedKind X.prog X.w) (show X.A.in1.units + 8 < cLine by show X.A.units + 1 + 8 < cLine; omega) ⟨nk_is I g.sub dy (.ref b) (.ref b) k hy hk rfl, hd⟩ h2 c2 ⟨v', H, I.tok _, c3, q v' c4⟩) hs
theorem es_dNget (hu : X.A.units + 65 < cLine) (ha : ES J X W a fa) (hb : ES J X W b fb) (hs : PlainIx b := by exact fun _ _ => rfl) : ES J X W (.Subscript a b pos) (eOp dNget fa fb) :=
  PE.imp (pe_ix (ix_N (J := J) hu) ha hb hs) fun _ _ _ h => tE_op (fun ρ F s H x y dx dy Q E g rx ry k => by
    unfold dNget at k
    split at k
    · rename_i i kvs kk h1 h2
      split at k
      · rename_i d hd
        exact ⟨kvs, kk, i, ρ, F, s, dy, d, okN_of (X := X) rfl g rx ry h1 h2, hd, fun v hv => k ρ F H v LE.refl g hv⟩
      · exact False.elim k
    · exact False.elim k) h
/-- d[k] = v -/
def dNput (s : Sto) (x y v : Dt) : Option Sto := match didAt s x, nkT y with
  | some (i, kvs), some k => if kvs.length < sizeLine then some (s.set i (.did (putA kvs k v))) else none
  | _, _ => none
def sNput (fo fi fv : Ex) : Sx := fun env => sBnd (fv env) env fun v => sBnd (fo env) env fun x => sBnd (fi env) env fun y s => match dNput s x y v with
  | some s' => .fl (.nx env) s'
  | none => .bad
def tNput (X : Cx) (J : Cn) (td ty tv : TE) : TS := fun D σ H => tv σ H fun v H1 => td σ H1 fun x H2 => ty σ H2 fun y H3 => ∃ kvs k i ρ F s dy d, OkN X x y H3 kvs k i (wd J X) ρ F s dy ∧ Den (wd J X) ρ F d v ∧ kvs.length < sizeLine ∧
  ∀ H4, G (wd J X) ρ F (s.set i (.did (putA kvs k d))) H4 → LE ρ F H3 ρ F H4 → D.nx σ H4
theorem ps_Nput {o i value : Expr} {td ty tv : TE} {pos' : Pos} (hu : X.A.units + 65 < cLine) (ho : PE X o td) (hi : PE X i ty) (hv : PE X value tv) (hs : swapsWith value (some (.Subscript o i pos')) pos.line X.env = pure false) : PS X (.Assign [.Subscript o i pos'] value pos) (tNput X J td ty tv) := by
  refine ⟨fun pins s σ H D I h => ?_⟩
  refine wpAny_Assign_Subscript (thn (hv.run pins s σ H _ I h) fun r s1 hv1 => ?_) hs
  obtain ⟨v, H1, I1, rv, q1⟩ := hv1
  refine thn (ho.run pins s1 σ H1 _ I1 q1) fun u s2 ho1 => ?_
  obtain ⟨x, H2, I2, rx, q2⟩ := ho1
  refine thn (hi.run pins s2 σ H2 _ I2 q2) fun iv s3 hi1 => ?_
  obtain ⟨y, H3, I3, ry, kvs, k, i', ρ, F, st, dy, d, ⟨ad, b, rfl, rfl, g, hw, hix, hst, m, hy, hk, hd⟩, hdv, hz, q3⟩ := hi1
  obtain rfl : u = Value.ref ad := rx
  obtain rfl : iv = Value.ref b := ry
  obtain ⟨es, h1, h2, h3, h4⟩ := nd_of I3 hw g.sub m
  have hlen : es.length = kvs.length := by
    have := congrArg List.length h1.fst
    rw [List.length_map, List.length_map] at this
    exact this
  refine wpAny_setItem_heap (knd := nestedKind X.prog X.w) (show X.A.in1.units + 8 < cLine by show X.A.units + 1 + 8 < cLine; omega) ⟨nk_is I3 g.sub dy (.ref b) (.ref b) k hy hk rfl, hd⟩ h2 (fun h' hm' hsame => ?_) (by rw [hlen]; exact Nat.le_of_lt hz)
  have dn := DenN.put hk hy rv hdv h1
  obtain ⟨ob, ents, ep, w1, w2, w3, w4, w5, w6⟩ := id hm'
  have okO : ObjOk X.prog X.w (upd H3 ad (NdO X.w ad (storedH es k b r))) h' ad (NdO X.w ad (storedH es k b r)) :=
    ⟨⟨ob, ents, ep, w1, w2, w3, w4⟩, ⟨ob, w1⟩, fun h1 h2 ⟨ob', ents', ep', q1, q2⟩ kk => ⟨ob', ents', ep', kk _ q1, q2⟩⟩
  have I4 := d_write (t' := s3.toks + (nestedKind X.prog X.w).draws k) I3 (by rw [h4]; trivial) hsame ⟨ob, w1⟩ okO
  refine ⟨σ, _, I4, q3 _ ?_ (LE.put (List.mem_of_getElem? hix))⟩
  obtain ⟨⟨z1, z2, z3⟩, z4, _⟩ := m
  refine g.put hix (fun od u e => by rw [h4] at e; unfold NdO at e; cases e) ⟨⟨?_, ?_, ?_⟩, z4, _, ?_, dn⟩
  · have := length_putA kvs k d
    omega
  · rw [← dn.fst]; exact w6
  · intro kv hkv
    unfold putA at hkv
    split at hkv
    · obtain ⟨x, hx, e⟩ := List.mem_map.mp hkv
      rw [← e]
      split
      · exact z3 x hx
      · exact z3 x hx
    · rcases List.mem_append.mp hkv with hkv | hkv
      · exact z3 kv hkv
      · rw [List.mem_singleton] at hkv
        rw [hkv]
        exact hd
  · rw [← hw] at h4 ⊢
    exact upd_same
theorem ss_Nput {o : Expr} {tpos : Pos} (hu : X.A.units + 65 < cLine) (ho : ES J X W o fo) (hi : ES J X W e fi) (hv : ES J X W e2 fv) (hs : swapsWith e2 (some (.Subscript o e tpos)) pos.line X.env = pure false := by rfl) : SS J X W (.Assign [.Subscript o e tpos] e2 pos) (sNput fo fi fv) :=
  PS.imp (ps_Nput (J := J) hu ho hi hv hs) fun D σ H ⟨env, ρ, F, s, g, l, k⟩ => ⟨env, ρ, F, s, g, l, FPo.bind k l fun v s1 ρ1 F1 H1 u e1 l1 g1 r1 k1 =>
    ⟨env, ρ1, F1, s1, g1, l.mono l1, FPo.bind k1 (l.mono l1) fun x s2 ρ2 F2 H2 ov e3 l2 g2 r2 k2 =>
      ⟨env, ρ2, F2, s2, g2, l.mono (l1.trans l2), FPo.bind k2 (l.mono (l1.trans l2)) fun y s3 ρ3 F3 H3 iv e4 l3 g3 r3 k3 => by
        unfold dNput at k3
        split at k3
        · rename_i s4 hs4
          split at hs4
          · rename_i i kvs kk h1 h2
            split at hs4
            · rename_i hz
              cases hs4
              exact ⟨kvs, kk, i, ρ3, F3, s3, y, v, okN_of (X := X) rfl g3 (Den.mono l3 _ _ r2) r3 h1 h2, Den.mono (l2.trans l3) _ _ r1, hz, fun H4 g4 l4 => k3 ρ3 F3 H4 σ l4 g4 (l.mono (((l1.trans l2).trans l3).trans l4))⟩
            · cases hs4
          · cases hs4
        · exact False.elim k3⟩⟩⟩
/-- {}, deep keys -/
def eDnewN : Ex := fun _ s => .ok (.obj s.length) (s ++ [.did []])
theorem es_dnewN : ES J X W (.Dict [] [] pos) eDnewN := by
  refine ⟨fun pins s σ H Q I h => ?_⟩
  obtain ⟨env, ρ, F, st, g, l, k⟩ := h
  have hp := I.hok.fresh (Nat.le_refl s.heap.objs.size)
  have hy : (s.heap.objs.size == sysModules) = false := beq_eq_false_iff_ne.mpr (Nat.ne_of_gt I.big)
  have ok : ObjOk X.prog X.w (upd H s.heap.objs.size (NdO X.w s.heap.objs.size [])) (s.heap.push { cls := .type "dict", data := .dict #[] }) s.heap.objs.size (NdO X.w s.heap.objs.size []) :=
    ⟨⟨_, #[], 0, Heap.get?_push_size _ rfl, ⟨rfl, rfl, rfl⟩, rfl, rfl⟩, ⟨_, Heap.get?_push_size _ rfl⟩, fun h1 h2 ⟨ob, ents, ep, q1, q2⟩ kk => ⟨ob, ents, ep, kk _ q1, q2⟩⟩
  refine wpAny_Dict_empty ⟨.ref s.heap.objs.size, _, I.laid (a := s.heap.objs.size) (o := NdO X.w s.heap.objs.size []) (t' := s.toks) (fun _ _ q => Heap.get?_push_of_some _ q) (Nat.le_refl _) ok, rfl, ?_⟩
  refine k (ρ ++ [s.heap.objs.size]) F _ _ (LE.new hp) (g.new hp ⟨⟨Nat.zero_le _, List.nodup_nil, fun _ h => nomatch h⟩, hy, [], upd_same, rfl⟩) ?_
  simp only [Den]
  exact ⟨_, rfl, by rw [← g.len, List.getElem?_append_right (Nat.le_refl _), Nat.sub_self]; rfl⟩
end
end Pd
/-! The meanings, run by simp. -/
namespace Pd
open PySem L2
section
variable {α β : Type} {env : En} {s : Sto}
@[simp] theorem run_ok {a : α} {s' : Sto} {k : α → Sto → Out β} : (match (Out.ok a s' : Out α) with | .ok a s' => k a s' | .exc c s' => .exc c s' | .bad => .bad) = k a s' := rfl
@[simp] theorem ev_var {i : Nat} : eVar i env s = (match env[i]? with | some (some d) => .ok d s | _ => .bad) := rfl
@[simp] theorem ev_c {d : Dt} : eC d env s = .ok d s := rfl
@[simp] theorem ev_op {op : Dt → Dt → Sto → Out Dt} {f g : Ex} : eOp op f g env s = bnd (f env) (fun x => bnd (g env) fun y => op x y) s := rfl
@[simp] theorem ev_un {op : Dt → Sto → Out Dt} {f : Ex} : eUn op f env s = bnd (f env) op s := rfl
@[simp] theorem bnd_def {m : Sto → Out α} {k : α → Sto → Out β} : bnd m k s = (match m s with | .ok a s' => k a s' | .exc c s' => .exc c s' | .bad => .bad) := rfl
@[simp] theorem sBnd_def {m : Sto → Out α} {k : α → Sto → Res} : sBnd m env k s = (match m s with | .ok a s' => k a s' | .exc c s' => .exc c env s' | .bad => .bad) := rfl
@[simp] theorem iOp_int {g : Int → Int → Dt} {ok : Int → Int → Bool} {i j : Int} : iOp g ok (.int i) (.int j) s = if ok i j = true then .ok (g i j) s else .bad := rfl
@[simp] theorem ev_seq {f g : Sx} : sSeq f g env s = (match f env s with | .fl (.nx e) s' => g e s' | r => r) := rfl
@[simp] theorem ev_if {t : Tx} {f g : Sx} : sIf t f g env s = sBnd (t env) env (fun c s => if c = true then f env s else g env s) s := rfl
@[simp] theorem ev_ret {f : Ex} : sRet f env s = sBnd (f env) env (fun d s => .fl (.rt d) s) s := rfl
@[simp] theorem ev_next : sNext env s = .fl (.nx env) s := rfl
@[simp] theorem ev_expr {f : Ex} : sExpr f env s = sBnd (f env) env (fun _ s => .fl (.nx env) s) s := rfl
@[simp] theorem ev_asg {f : Ex} {tg : Tg} : sAsg f tg env s = sBnd (f env) env (fun d s => match tg d env s with | some e => .fl (.nx e) s | none => .bad) s := rfl
@[simp] theorem ev_gN {i : Nat} {d : Dt} : gN i d env s = some (env.set i (some d)) := rfl
@[simp] theorem ev_gT {is : List Nat} {l : List Dt} : gT is (.tup l) env s = setAll is l env := rfl
@[simp] theorem setAll_nil : setAll [] [] env = some env := rfl
@[simp] theorem setAll_cons {i : Nat} {is : List Nat} {d : Dt} {ds : List Dt} : setAll (i :: is) (d :: ds) env = setAll is ds (env.set i (some d)) := rfl
@[simp] theorem ev_tru {f : Ex} : tTru f env s = bnd (f env) (fun d s => ofB s (truD s d)) s := rfl
@[simp] theorem ev_bl {f : Ex} : tBl f env s = bnd (f env) (fun d s => match d with | .bl b => .ok b s | _ => .bad) s := rfl
@[simp] theorem ev_and {f g : Tx} : tAnd f g env s = bnd (f env) (fun c s => if c = true then g env s else .ok false s) s := rfl
@[simp] theorem ev_or {f g : Tx} : tOr f g env s = bnd (f env) (fun c s => if c = true then .ok true s else g env s) s := rfl
@[simp] theorem ev_not {f : Tx} : tNot f env s = bnd (f env) (fun c s => .ok (!c) s) s := rfl
@[simp] theorem ev_yes : Pd.tYes env s = .ok true s := rfl
@[simp] theorem ev_andE {f g : Ex} : eAnd f g env s = bnd (f env) (fun d s => match truD s d with | some true => g env s | some false => .ok d s | none => .bad) s := rfl
@[simp] theorem ev_orE {f g : Ex} : eOr f g env s = bnd (f env) (fun d s => match truD s d with | some true => .ok d s | some false => g env s | none => .bad) s := rfl
@[simp] theorem ev_notE {f : Ex} : eNot f env s = bnd (f env) (fun d s => ofO s ((truD s d).map fun b => .bl (!b))) s := rfl
@[simp] theorem ev_ifE {t : Tx} {f g : Ex} : eIf t f g env s = bnd (t env) (fun c s => if c = true then f env s else g env s) s := rfl
@[simp] theorem ev_chain {op op' : Dt → Dt → Sto → Out Dt} {f g h : Ex} : eChain op op' f g h env s = bnd (f env) (fun x => bnd (g env) fun y => bnd (op x y) fun z s => match z with | .bl true => bnd (h env) (fun w => op' y w) s | .bl false => .ok (.bl false) s | _ => .bad) s := rfl
@[simp] theorem ofB_some {b : Bool} : ofB s (some b) = .ok b s := rfl
@[simp] theorem ofO_some {d : Dt} : ofO s (some d) = .ok d s := rfl
@[simp] theorem ofO_none : ofO s none = .bad := rfl
@[simp] theorem truD_non : truD s .non = some false := rfl
@[simp] theorem truD_bl {b : Bool} : truD s (.bl b) = some b := rfl
@[simp] theorem truD_int {i : Int} : truD s (.int i) = some (i != 0) := rfl
@[simp] theorem truD_str {x : Str} : truD s (.str x) = some ((x.length : Int) != 0) := rfl
@[simp] theorem truD_tup {l : List Dt} : truD s (.tup l) = some (!l.isEmpty) := rfl
@[simp] theorem truD_lst {l : List Dt} : truD s (.lst l) = some (!l.isEmpty) := rfl
@[simp] theorem truD_lsk {l : List Dt} : truD s (.lsk l) = some (!l.isEmpty) := rfl
theorem truD_obj {i : Nat} {l : List Dt} (h : s[i]? = some (.lst l)) : truD s (.obj i) = some (!l.isEmpty) := by simp only [truD, h]
theorem truD_dic {i : Nat} {l : List (Key × Dt)} (h : s[i]? = some (.dic l)) : truD s (.obj i) = some (!l.isEmpty) := by simp only [truD, h]
@[simp] theorem evs_nil : evs [] env s = .ok [] s := rfl
@[simp] theorem evs_cons {f : Ex} {fs : List Ex} : evs (f :: fs) env s = bnd (f env) (fun d => bnd (evs fs env) fun ds s => .ok (d :: ds) s) s := rfl
@[simp] theorem ev_tup {fs : List Ex} : eTup fs env s = bnd (evs fs env) (fun ds s => .ok (.tup ds) s) s := rfl
@[simp] theorem ev_lst {nw : List Dt → Sto → Out Dt} {fs : List Ex} : eLst nw fs env s = bnd (evs fs env) nw s := rfl
@[simp] theorem ev_nwF {ds : List Dt} : nwF ds s = .ok (.lst ds) s := rfl
@[simp] theorem ev_nwM {ds : List Dt} : nwM ds s = .ok (.obj s.length) (s ++ [.lst ds]) := rfl
@[simp] theorem ev_call {m : Fn} {fs : List Ex} : eCall m fs env s = bnd (evs fs env) m s := rfl
@[simp] theorem ev_meth {c : Nat} {m : Fn} {fo : Ex} {fs : List Ex} : eMeth c m fo fs env s = bnd (fo env) (fun x s => match insD s c x with | some _ => bnd (evs fs env) (fun ds => m (x :: ds)) s | none => .bad) s := rfl
@[simp] theorem ev_make {c : Nat} {m : Fn} {fs : List Ex} : eMake c m fs env s = bnd (evs fs env) (fun ds s => bnd (m (.obj s.length :: ds)) (fun _ s' => .ok (.obj s.length) s') (s ++ [.ins c []])) s := rfl
@[simp] theorem ev_fld {c i : Nat} {fo : Ex} : eFld c i fo env s = bnd (fo env) (fun d s => ofO s ((insD s c d).bind fun p => p.2[i]?)) s := rfl
theorem insD_obj {c j : Nat} {ds : List Dt} (h : s[j]? = some (.ins c ds)) : insD s c (.obj j) = some (j, ds) := by simp only [insD, h, if_true]
@[simp] theorem ev_setF {c i : Nat} {fo fv : Ex} : sSetF c i fo fv env s = sBnd (fv env) env (fun y => sBnd (fo env) env fun d s => match setFD s c i d y with | some s' => .fl (.nx env) s' | none => .bad) s := rfl
theorem setFD_obj {c i j : Nat} {ds : List Dt} {y : Dt} (h : s[j]? = some (.ins c ds)) (hi : i ≤ ds.length) : setFD s c i (.obj j) y = some (s.set j (.ins c (putI i y ds))) := by simp only [setFD, insD_obj h, Option.bind_some, if_pos hi]
@[simp] theorem ev_bm1 {ty : Sto → Dt → Bool} {op : Dt → Dt → Sto → Out Dt} {fo fe : Ex} : eBm1 ty op fo fe env s = bnd (fo env) (fun x s => if ty s x = true then bnd (fe env) (fun y => op x y) s else .bad) s := rfl
theorem isLst_obj {i : Nat} {l : List Dt} (h : s[i]? = some (.lst l)) : isLst s (.obj i) = true := by simp [isLst, asL, h]
theorem lstAt_obj {i : Nat} {l : List Dt} (h : s[i]? = some (.lst l)) : lstAt s (.obj i) = some (i, l) := by simp only [lstAt, h]
theorem dApp_obj {i : Nat} {l : List Dt} {y : Dt} (h : s[i]? = some (.lst l)) (hz : l.length < sizeLine) : dApp (.obj i) y s = .ok .non (s.set i (.lst (l ++ [y]))) := by simp only [dApp, lstAt_obj h, if_pos hz]
@[simp] theorem asQ_tup {l : List Dt} : asQ s (.tup l) = some l := rfl
@[simp] theorem asQ_lst {l : List Dt} : asQ s (.lst l) = some l := rfl
@[simp] theorem asQ_lsk {l : List Dt} : asQ s (.lsk l) = some l := rfl
@[simp] theorem asL_lst {l : List Dt} : asL s (.lst l) = some l := rfl
@[simp] theorem asL_lsk {l : List Dt} : asL s (.lsk l) = some l := rfl
theorem asQ_obj {i : Nat} {l : List Dt} (h : s[i]? = some (.lst l)) : asQ s (.obj i) = some l := by simp only [asQ, asL, h]
theorem asL_obj {i : Nat} {l : List Dt} (h : s[i]? = some (.lst l)) : asL s (.obj i) = some l := by simp only [asL, h]
@[simp] theorem dLen_tup {l : List Dt} : dLen (.tup l) s = .ok (.int l.length) s := rfl
@[simp] theorem dLen_lst {l : List Dt} : dLen (.lst l) s = .ok (.int l.length) s := rfl
@[simp] theorem dLen_lsk {l : List Dt} : dLen (.lsk l) s = .ok (.int l.length) s := rfl
@[simp] theorem dLen_str {l : Str} : dLen (.str l) s = .ok (.int l.length) s := rfl
theorem dLen_obj {i : Nat} {l : List Dt} (h : s[i]? = some (.lst l)) : dLen (.obj i) s = .ok (.int l.length) s := by simp only [dLen, lenD, h]; rfl
theorem dLen_dic {i : Nat} {l : List (Key × Dt)} (h : s[i]? = some (.dic l)) : dLen (.obj i) s = .ok (.int l.length) s := by simp only [dLen, lenD, h]; rfl
@[simp] theorem dIx_tup {l : List Dt} {i : Int} : dIx (.tup l) (.int i) s = ofO s (atI l i) := rfl
@[simp] theorem dIx_lst {l : List Dt} {i : Int} : dIx (.lst l) (.int i) s = ofO s (atI l i) := rfl
@[simp] theorem dIx_lsk {l : List Dt} {i : Int} : dIx (.lsk l) (.int i) s = ofO s (atI l i) := rfl
@[simp] theorem dIx_str {z : Str} {i : Int} : dIx (.str z) (.int i) s = ofO s ((atI z.cps.toList i).map fun c => .str ⟨#[c]⟩) := rfl
theorem dIx_obj {j : Nat} {l : List Dt} {i : Int} (h : s[j]? = some (.lst l)) : dIx (.obj j) (.int i) s = ofO s (atI l i) := by simp only [dIx, asQ_obj h, Option.bind_some]
@[simp] theorem dAdd_int {nw : List Dt → Sto → Out Dt} {i j : Int} : dAdd nw (.int i) (.int j) s = .ok (.int (i + j)) s := rfl
@[simp] theorem dNeg_int {i : Int} : dNeg (.int i) s = .ok (.int (-i)) s := rfl
@[simp] theorem isN_def {d : Dt} : dIsN d s = .ok (.bl (isNon d)) s := rfl
@[simp] theorem notN_def {d : Dt} : dNotN d s = .ok (.bl (!isNon d)) s := rfl
@[simp] theorem isNon_non : isNon .non = true := rfl
@[simp] theorem isNon_int {i : Int} : isNon (.int i) = false := rfl
@[simp] theorem isNon_bl {i : Bool} : isNon (.bl i) = false := rfl
@[simp] theorem isNon_str {i : Str} : isNon (.str i) = false := rfl
@[simp] theorem isNon_tup {i : List Dt} : isNon (.tup i) = false := rfl
@[simp] theorem isNon_lst {i : List Dt} : isNon (.lst i) = false := rfl
@[simp] theorem isNon_obj {i : Nat} : isNon (.obj i) = false := rfl
@[simp] theorem isNon_exc {i : Nat} : isNon (.exc i) = false := rfl
/-! equality -/
@[simp] theorem dEq_int {i j : Int} : dEq (.int i) (.int j) s = .ok (.bl (i == j)) s := rfl
@[simp] theorem dNe_int {i j : Int} : dNe (.int i) (.int j) s = .ok (.bl (!(i == j))) s := rfl
@[simp] theorem dEq_str {i j : Str} : dEq (.str i) (.str j) s = .ok (.bl (i == j)) s := rfl
@[simp] theorem dNe_str {i j : Str} : dNe (.str i) (.str j) s = .ok (.bl (!(i == j))) s := rfl
@[simp] theorem dEq_bl {i j : Bool} : dEq (.bl i) (.bl j) s = .ok (.bl (i == j)) s := rfl
end
theorem rep_zero : List.replicate 0 (none : Option Dt) = [] := rfl
theorem rep_succ {n : Nat} : List.replicate (n + 1) (none : Option Dt) = none :: List.replicate n none := rfl
/-- places of a written list -/
theorem atI_ofNat {α : Type} (l : List α) (n : Nat) : atI l (n : Int) = l[n]? := by
  unfold atI ixN
  rw [if_pos (Int.natCast_nonneg n)]
  by_cases h : n < l.length
  · rw [if_pos (by exact_mod_cast h)]; simp
  · rw [if_neg (by exact_mod_cast h)]
    simp
    omega
@[simp] theorem atI_zero {α : Type} (l : List α) : atI l 0 = l[0]? := atI_ofNat l 0
@[simp] theorem atI_one {α : Type} (l : List α) : atI l 1 = l[1]? := atI_ofNat l 1
@[simp] theorem atI_2 {α : Type} (l : List α) : atI l 2 = l[2]? := atI_ofNat l 2
@[simp] theorem atI_3 {α : Type} (l : List α) : atI l 3 = l[3]? := atI_ofNat l 3
@[simp] theorem atI_4 {α : Type} (l : List α) : atI l 4 = l[4]? := atI_ofNat l 4
@[simp] theorem atI_5 {α : Type} (l : List α) : atI l 5 = l[5]? := atI_ofNat l 5
@[simp] theorem atI_6 {α : Type} (l : List α) : atI l 6 = l[6]? := atI_ofNat l 6
@[simp] theorem atI_7 {α : Type} (l : List α) : atI l 7 = l[7]? := atI_ofNat l 7
@[simp] theorem atI_8 {α : Type} (l : List α) : atI l 8 = l[8]? := atI_ofNat l 8
@[simp] theorem atI_9 {α : Type} (l : List α) : atI l 9 = l[9]? := atI_ofNat l 9
@[simp] theorem atI_10 {α : Type} (l : List α) : atI l 10 = l[10]? := atI_ofNat l 10
@[simp] theorem atI_11 {α : Type} (l : List α) : atI l 11 = l[11]? := atI_ofNat l 11
@[simp] theorem atI_12 {α : Type} (l : List α) : atI l 12 = l[12]? := atI_ofNat l 12
theorem atI_m1 {α : Type} (l : List α) : atI l (-1) = l.getLast? := by
  rcases List.eq_nil_or_concat l with e | ⟨r, x, e⟩
  · subst e; rfl
  · subst e
    rw [List.concat_eq_append, atI_last, List.getLast?_append]
    rfl
theorem dAdd_tup {nw : List Dt → Sto → Out Dt} {l m : List Dt} {s : Sto} (h : l.length + m.length ≤ 1000) : dAdd nw (.tup l) (.tup m) s = .ok (.tup (l ++ m)) s := by
  simp only [dAdd]
  rw [if_pos (by rw [sizeLine_eq]; omega)]
theorem dIsi_tup {l : List Dt} {s : Sto} : dIsi "tuple" (.tup l) s = .ok (.bl true) s := rfl
end Pd
namespace Pd
open PySem L2
/-- a comprehension that changes nothing -/
theorem lc_pure {tg : Tg} {ft : Tx} {fe : Ex} {ok : Sto → Prop} {env : En} {s : Sto} {p : Dt → Bool} {g : Dt → Dt} (hok : ok s) : ∀ {l : List Dt}, (∀ d ∈ l, ∃ env1, tg d env s = some env1 ∧ ft env1 s = .ok (p d) s ∧ (p d = true → fe env1 s = .ok (g d) s)) → lcGo tg ft fe ok l env s = .ok ((l.filter p).map g) s
  | [], _ => by simp only [lcGo, if_pos hok, List.filter_nil, List.map_nil]
  | d :: r, h => by
    obtain ⟨env1, h1, h2, h3⟩ := h d List.mem_cons_self
    have ih := lc_pure (l := r) hok fun d hd => h d (List.mem_cons_of_mem _ hd)
    simp only [lcGo, if_pos hok, h1, bndN, h2]
    cases e : p d with
    | true =>
      rw [if_pos rfl, List.filter_cons_of_pos e, List.map_cons]
      simp only [h3 e, ih]
    | false =>
      rw [if_neg Bool.false_ne_true, List.filter_cons_of_neg (by simp [e])]
      exact ih
/-- a loop by what holds between its turns -/
theorem for_inv {tg : Tg} {body : Sx} {ok : Sto → Prop} (I : List Dt → En → Sto → Prop) (all : List Dt) : ∀ (l pre : List Dt), all = pre ++ l → ∀ (env : En) (s : Sto), I pre env s →
    (∀ pre d post env s, all = pre ++ d :: post → I pre env s → ok s ∧ ∃ env1, tg d env s = some env1 ∧ ∃ e s', (body env1 s = .fl (.nx e) s' ∨ body env1 s = .fl (.ct e) s') ∧ I (pre ++ [d]) e s') → (∀ env s, I all env s → ok s) →
    ∃ e s', forGo tg body ok l env s = .fl (.nx e) s' ∧ I all e s'
  | [], pre, ha, env, s, hi, hs, hd => by
    rw [List.append_nil] at ha
    subst ha
    exact ⟨env, s, by simp only [forGo, if_pos (hd env s hi)], hi⟩
  | d :: r, pre, ha, env, s, hi, hs, hd => by
    obtain ⟨hok, env1, h1, e, s', h2, h3⟩ := hs pre d r env s ha hi
    obtain ⟨e2, s2, h4, h5⟩ := for_inv I all r (pre ++ [d]) (by rw [ha, List.append_assoc]; rfl) e s' h3 hs hd
    refine ⟨e2, s2, ?_, h5⟩
    rcases h2 with h2 | h2
    · simp only [forGo, if_pos hok, h1, h2]; exact h4
    · simp only [forGo, if_pos hok, h1, h2]; exact h4
/-- .. over the numbers below n -/
theorem for_range_inv {tg : Tg} {body : Sx} (I : Nat → En → Sto → Prop) (n : Nat) {env : En} {s : Sto} (h0 : I 0 env s)
    (hs : ∀ k env s, k < n → I k env s → ∃ env1, tg (.int k) env s = some env1 ∧ ∃ e s', (body env1 s = .fl (.nx e) s' ∨ body env1 s = .fl (.ct e) s') ∧ I (k + 1) e s') :
    ∃ e s', forGo tg body (fun _ => True) ((List.range n).map fun (k : Nat) => .int k) env s = .fl (.nx e) s' ∧ I n e s' := by
  obtain ⟨e, s', h1, h2⟩ := for_inv (tg := tg) (body := body) (ok := fun _ => True) (fun pre env s => ∃ k, k ≤ n ∧ pre = (List.range k).map (fun (k : Nat) => Dt.int k) ∧ I k env s) ((List.range n).map fun (k : Nat) => .int k) _ [] rfl env s ⟨0, Nat.zero_le _, rfl, h0⟩
    (fun pre d post env s ha ⟨k, hk, ep, hi⟩ => by
      have hlen : pre.length = k := by rw [ep, List.length_map, List.length_range]
      have hkn : k < n := by
        have := congrArg List.length ha
        simp at this
        omega
      have ed : d = .int k := by
        have z : ((List.range n).map fun (k : Nat) => Dt.int k)[k]? = some d := by rw [ha, ← hlen]; simp
        rw [List.getElem?_map, List.getElem?_range hkn] at z
        simpa using z.symm
      subst ed
      obtain ⟨env1, h1, e, s', h2, h3⟩ := hs k env s hkn hi
      exact ⟨trivial, env1, h1, e, s', h2, k + 1, hkn, by rw [ep, List.range_succ, List.map_append]; rfl, h3⟩) (fun _ _ _ => trivial)
  obtain ⟨k, hk, ep, hi⟩ := h2
  have : k = n := by
    have := congrArg List.length ep
    simp at this
    omega
  subst this
  exact ⟨e, s', h1, hi⟩
@[simp] theorem ev_for {fi : Is} {tg : Tg} {body : Sx} {env : En} {s : Sto} : sFor fi tg body env s = sBnd (fi env) env (fun p => forGo tg body p.2 p.1 env) s := rfl
@[simp] theorem ev_lc {nw : List Dt → Sto → Out Dt} {vs : List Nat} {fi : Is} {tg : Tg} {ft : Tx} {fe : Ex} {env : En} {s : Sto} : eLc nw vs fi tg ft fe env s = bnd (fi env) (fun p => bndN (lcGo tg ft fe p.2 p.1 (wipeD env vs)) nw) s := rfl
@[simp] theorem wipeD_nil {env : En} : wipeD env [] = env := rfl
@[simp] theorem wipeD_cons {env : En} {v : Nat} {vs : List Nat} : wipeD env (v :: vs) = (wipeD env vs).set v none := rfl
theorem bndN_ok {α β : Type} {m : Sto → Out α} {k : α → Sto → Out β} {s s' : Sto} {a : α} (h : m s = .ok a s') : bndN m k s = k a s' := by unfold bndN; rw [h]
@[simp] theorem ev_iSeq {f : Ex} {env : En} {s : Sto} : iSeq f env s = bnd (β := List Dt × (Sto → Prop)) (f env) (fun d s => match d with
  | .str x => .ok (signs x, fun _ => True) s
  | d => match asQ s d with
    | some l => .ok (l, fun s' => asQ s' d = some l) s
    | none => .bad) s := rfl
@[simp] theorem ev_iRange {f : Ex} {env : En} {s : Sto} : iRange f env s = bnd (β := List Dt × (Sto → Prop)) (f env) (fun d s => match d with
  | .int n => if n ≤ 16777216 ∧ -(2 ^ 62) ≤ n then .ok ((List.range n.toNat).map fun (k : Nat) => .int k, fun _ => True) s else .bad
  | _ => .bad) s := rfl
theorem ev_sl {nw : List Dt → Sto → Out Dt} {fa : Ex} {lo hi : Option Ex} {env : En} {s : Sto} : eSl nw fa lo hi env s = bnd (fa env) (fun x => bnd (evp lo env) fun l => bnd (evp hi env) fun u => dSl nw x l u) s := rfl
theorem evp_none {env : En} {s : Sto} : evp none env s = .ok none s := rfl
theorem evp_some {f : Ex} {env : En} {s : Sto} : evp (some f) env s = bnd (f env) (fun d s => match d with | .int i => .ok (some i) s | _ => .bad) s := rfl
theorem dSl_tup {nw : List Dt → Sto → Out Dt} {l : List Dt} {lo hi : Option Int} {s : Sto} : dSl nw (.tup l) lo hi s = .ok (.tup (cutD l lo hi)) s := rfl
theorem dSl_lst {nw : List Dt → Sto → Out Dt} {l : List Dt} {lo hi : Option Int} {s : Sto} : dSl nw (.lst l) lo hi s = nw (cutD l lo hi) s := rfl
theorem dSl_obj {nw : List Dt → Sto → Out Dt} {i : Nat} {l : List Dt} {lo hi : Option Int} {s : Sto} (h : s[i]? = some (.lst l)) : dSl nw (.obj i) lo hi s = nw (cutD l lo hi) s := by simp only [dSl, asL_obj h]
/-! ### equal data -/
mutual
theorem eqv_refl : ∀ p : PyData, p.canLay0 = true → PyData.eqv p p = true
  | .none, _ => rfl
  | .bool b, _ => by simp [PyData.eqv]
  | .int i, _ => by simp [PyData.eqv]
  | .str x, _ => by simp [PyData.eqv]
  | .list xs, h => by simp only [PyData.eqv]; exact eqvAll_refl xs (by simpa only [PyData.canLay0] using h)
  | .tuple xs, h => by simp only [PyData.eqv]; exact eqvAll_refl xs (by simpa only [PyData.canLay0] using h)
  | .dict xs, h => by simp [PyData.canLay0] at h
theorem eqvAll_refl : ∀ p : List PyData, PyData.canLayAll0 p = true → PyData.eqvAll p p = true
  | [], _ => rfl
  | x :: xs, h => by
    simp only [PyData.canLayAll0, Bool.and_eq_true] at h
    simp only [PyData.eqvAll, eqv_refl x h.1, eqvAll_refl xs h.2, Bool.and_self]
end
mutual
def noDict : PyData → Bool
  | .list xs => noDicts xs
  | .tuple xs => noDicts xs
  | .dict _ => false
  | _ => true
def noDicts : List PyData → Bool
  | [] => true
  | x :: xs => noDict x && noDicts xs
end
mutual
theorem eqv_self : ∀ p : PyData, noDict p = true → PyData.eqv p p = true
  | .none, _ => rfl
  | .bool b, _ => by simp [PyData.eqv]
  | .int i, _ => by simp [PyData.eqv]
  | .str x, _ => by simp [PyData.eqv]
  | .list xs, h => by simp only [PyData.eqv]; exact eqvAll_self xs (by simpa only [noDict] using h)
  | .tuple xs, h => by simp only [PyData.eqv]; exact eqvAll_self xs (by simpa only [noDict] using h)
  | .dict xs, h => by simp [noDict] at h
theorem eqvAll_self : ∀ p : List PyData, noDicts p = true → PyData.eqvAll p p = true
  | [], _ => rfl
  | x :: xs, h => by
    simp only [noDicts, Bool.and_eq_true] at h
    simp only [PyData.eqvAll, eqv_self x h.1, eqvAll_self xs h.2, Bool.and_self]
end
mutual
theorem toPy_noDict : ∀ (d : Dt) (p : PyData), toPy d = some p → noDict p = true
  | .non, p, h => by simp only [toPy, Option.some.injEq] at h; subst h; rfl
  | .bl _, p, h => by simp only [toPy, Option.some.injEq] at h; subst h; rfl
  | .int _, p, h => by simp only [toPy, Option.some.injEq] at h; subst h; rfl
  | .str _, p, h => by simp only [toPy, Option.some.injEq] at h; subst h; rfl
  | .tup l, p, h => by
    simp only [toPy, Option.map_eq_some_iff] at h
    obtain ⟨q, e1, e2⟩ := h
    subst e2
    simp only [noDict]
    exact toPys_noDict l q e1
  | .lst l, p, h => by
    simp only [toPy, Option.map_eq_some_iff] at h
    obtain ⟨q, e1, e2⟩ := h
    subst e2
    simp only [noDict]
    exact toPys_noDict l q e1
  | .lsk l, p, h => by
    simp only [toPy, Option.map_eq_some_iff] at h
    obtain ⟨q, e1, e2⟩ := h
    subst e2
    simp only [noDict]
    exact toPys_noDict l q e1
  | .obj _, p, h => by simp [toPy] at h
  | .exc _, p, h => by simp [toPy] at h
theorem toPys_noDict : ∀ (d : List Dt) (p : List PyData), toPys d = some p → noDicts p = true
  | [], p, h => by simp only [toPys, Option.some.injEq] at h; subst h; rfl
  | d :: ds, p, h => by
    simp only [toPys] at h
    split at h
    · rename_i a b ha hb
      cases h
      simp only [noDicts, toPy_noDict d a ha, toPys_noDict ds b hb, Bool.and_self]
    · cases h
end
mutual
def dpt : Dt → Option Nat
  | .non => some 0
  | .bl _ => some 0
  | .int _ => some 0
  | .str _ => some 0
  | .tup l => (dpts l).map (· + 1)
  | .lst l => (dpts l).map (· + 1)
  | .lsk l => (dpts l).map (· + 1)
  | .obj _ => none
  | .exc _ => none
def dpts : List Dt → Option Nat
  | [] => some 0
  | d :: ds => match dpt d, dpts ds with
    | some a, some b => some (max a b)
    | _, _ => none
end
mutual
theorem dpt_py : ∀ (d : Dt) (n : Nat), dpt d = some n → ∃ p, toPy d = some p ∧ p.depth = n
  | .non, n, h => by simp only [dpt, Option.some.injEq] at h; exact ⟨_, rfl, by simp only [PyData.depth]; exact h⟩
  | .bl _, n, h => by simp only [dpt, Option.some.injEq] at h; exact ⟨_, rfl, by simp only [PyData.depth]; exact h⟩
  | .int _, n, h => by simp only [dpt, Option.some.injEq] at h; exact ⟨_, rfl, by simp only [PyData.depth]; exact h⟩
  | .str _, n, h => by simp only [dpt, Option.some.injEq] at h; exact ⟨_, rfl, by simp only [PyData.depth]; exact h⟩
  | .tup l, n, h => by
    simp only [dpt, Option.map_eq_some_iff] at h
    obtain ⟨m, e1, e2⟩ := h
    obtain ⟨q, e3, e4⟩ := dpts_py l m e1
    exact ⟨.tuple q, by simp only [toPy, e3, Option.map_some], by simp only [PyData.depth]; omega⟩
  | .lst l, n, h => by
    simp only [dpt, Option.map_eq_some_iff] at h
    obtain ⟨m, e1, e2⟩ := h
    obtain ⟨q, e3, e4⟩ := dpts_py l m e1
    exact ⟨.list q, by simp only [toPy, e3, Option.map_some], by simp only [PyData.depth]; omega⟩
  | .lsk l, n, h => by
    simp only [dpt, Option.map_eq_some_iff] at h
    obtain ⟨m, e1, e2⟩ := h
    obtain ⟨q, e3, e4⟩ := dpts_py l m e1
    exact ⟨.list q, by simp only [toPy, e3, Option.map_some], by simp only [PyData.depth]; omega⟩
  | .obj _, n, h => by simp [dpt] at h
  | .exc _, n, h => by simp [dpt] at h
theorem dpts_py : ∀ (d : List Dt) (n : Nat), dpts d = some n → ∃ p, toPys d = some p ∧ PyData.depthAll p = n
  | [], n, h => by simp only [dpts, Option.some.injEq] at h; exact ⟨[], rfl, by simp only [PyData.depthAll]; exact h⟩
  | d :: ds, n, h => by
    simp only [dpts] at h
    split at h
    · rename_i a b ha hb
      cases h
      obtain ⟨p, e1, e2⟩ := dpt_py d a ha
      obtain ⟨q, e3, e4⟩ := dpts_py ds b hb
      exact ⟨p :: q, by simp only [toPys, e1, e3], by simp only [PyData.depthAll, e2, e4]⟩
    · cases h
end
theorem dEq_self {d : Dt} {n : Nat} {s : Sto} (h : dpt d = some n) (hn : n ≤ 64) : dEq d d s = .ok (.bl true) s ∧ dNe d d s = .ok (.bl false) s := by
  obtain ⟨p, e1, e2⟩ := dpt_py d n h
  have e3 : toPyS s d = some p := by
    cases d with
    | obj i => simp [dpt] at h
    | _ => exact e1
  have e4 : dEqB s d d = some true := by
    simp only [dEqB, e3, e2, if_pos (And.intro hn hn), eqv_self p (toPy_noDict d p e1)]
  constructor
  · simp only [dEq, e4, Option.map_some, ofO_some]
  · simp only [dNe, e4, Option.map_some, ofO_some, Bool.not_true]
end Pd
namespace Pd
open PySem L2
/-! ### comprehensions over written-out lists -/
theorem lc_map {α : Type} {tg : Tg} {ft : Tx} {fe : Ex} {ok : Sto → Prop} {env : En} {s : Sto} {f g : α → Dt} (hok : ok s) : ∀ {l : List α}, (∀ a ∈ l, ∃ env1, tg (f a) env s = some env1 ∧ ft env1 s = .ok true s ∧ fe env1 s = .ok (g a) s) → lcGo tg ft fe ok (l.map f) env s = .ok (l.map g) s
  | [], _ => by simp only [List.map_nil, lcGo, if_pos hok]
  | d :: r, h => by
    obtain ⟨env1, h1, h2, h3⟩ := h d List.mem_cons_self
    have ih := lc_map (l := r) hok fun d hd => h d (List.mem_cons_of_mem _ hd)
    simp only [List.map_cons, lcGo, if_pos hok, h1, bndN, h2, h3, ih, if_true]
theorem lc_filter {α : Type} {tg : Tg} {ft : Tx} {fe : Ex} {ok : Sto → Prop} {env : En} {s : Sto} {f g : α → Dt} {p : α → Bool} (hok : ok s) : ∀ {l : List α}, (∀ a ∈ l, ∃ env1, tg (f a) env s = some env1 ∧ ft env1 s = .ok (p a) s ∧ (p a = true → fe env1 s = .ok (g a) s)) → lcGo tg ft fe ok (l.map f) env s = .ok ((l.filter p).map g) s
  | [], _ => by simp only [List.map_nil, lcGo, if_pos hok, List.filter_nil]
  | d :: r, h => by
    obtain ⟨env1, h1, h2, h3⟩ := h d List.mem_cons_self
    have ih := lc_filter (l := r) hok fun d hd => h d (List.mem_cons_of_mem _ hd)
    cases e : p d with
    | true => simp only [List.map_cons, lcGo, if_pos hok, h1, bndN, h2, h3 e, ih, e, if_true, List.filter_cons]
    | false => simp only [List.map_cons, lcGo, if_pos hok, h1, bndN, h2, ih, e, Bool.false_eq_true, if_false, List.filter_cons]
/-- .. where the store changes: what holds between the turns -/
theorem lc_inv {tg : Tg} {fe : Ex} {ok : Sto → Prop} {env : En} (I : Nat → Sto → Prop) (P : Dt → Prop) (N : Nat) (hok : ∀ n s, I n s → ok s) : ∀ {l : List Dt} {n : Nat} {s : Sto}, n + l.length ≤ N → I n s →
    (∀ n s, ∀ d ∈ l, n < N → I n s → ∃ env1, tg d env s = some env1 ∧ ∃ y s', fe env1 s = .ok y s' ∧ P y ∧ I (n + 1) s') → ∃ ys s', lcGo tg Pd.tYes fe ok l env s = .ok ys s' ∧ I (n + l.length) s' ∧ ys.length = l.length ∧ ∀ y ∈ ys, P y
  | [], n, s, _, hi, _ => ⟨[], s, by simp only [lcGo, if_pos (hok n s hi)], hi, rfl, fun _ h => nomatch h⟩
  | d :: r, n, s, hN, hi, h => by
    rw [List.length_cons] at hN
    obtain ⟨env1, h1, y, s1, h2, hp, h3⟩ := h n s d List.mem_cons_self (by omega) hi
    obtain ⟨ys, s2, h4, h5, h6, h7⟩ := lc_inv (tg := tg) (fe := fe) (ok := ok) (env := env) I P N hok (l := r) (n := n + 1) (by omega) h3 fun n s d hd => h n s d (List.mem_cons_of_mem _ hd)
    refine ⟨y :: ys, s2, ?_, ?_, by rw [List.length_cons, List.length_cons, h6], fun z hz => ?_⟩
    · simp only [lcGo, if_pos (hok n s hi), h1, bndN, ev_yes, if_true, h2, h4]
    · rw [List.length_cons]; rw [show n + (r.length + 1) = n + 1 + r.length by omega]; exact h5
    · rcases List.mem_cons.mp hz with e | hz
      · rw [e]; exact hp
      · exact h7 z hz
/-! ### texts -/
theorem mkS_beq (a b : List Nat) : (mkS a == mkS b) = (a == b) := by
  rw [Bool.eq_iff_iff]
  simp only [beq_iff_eq]
  exact ⟨fun h => by have := congrArg (fun x : Str => x.cps.toList) h; simpa using this, fun h => by rw [h]⟩
theorem mkS_eq (x : Str) : x = mkS x.cps.toList := (TL.mk_tl x).symm
theorem mkS_len (l : List Nat) : (mkS l).length = l.length := len_codes _
theorem dLen_mk {l : List Nat} {s : Sto} : dLen (.str (mkS l)) s = .ok (.int l.length) s := by rw [dLen_str, mkS_len]
theorem dEq_mk {a b : List Nat} {s : Sto} : dEq (.str (mkS a)) (.str (mkS b)) s = .ok (.bl (a == b)) s := by rw [dEq_str, mkS_beq]
theorem dNe_mk {a b : List Nat} {s : Sto} : dNe (.str (mkS a)) (.str (mkS b)) s = .ok (.bl (!(a == b))) s := by rw [dNe_str, mkS_beq]
theorem isStr_str {x : Str} {s : Sto} : isStr s (.str x) = true := rfl
theorem isLst_lst {l : List Dt} {s : Sto} : isLst s (.lst l) = true := rfl
theorem dSplit_mk {nw : List Dt → Sto → Out Dt} {a : List Nat} {s : Sto} : dSplit nw (.str (mkS a)) (.str (mkS [47])) s = nw ((splC 47 a).map fun l => .str (mkS l)) s := rfl
theorem signs_mk (l : List Nat) : signs (mkS l) = l.map fun c => .str (mkS [c]) := rfl
theorem dOrd_mk {c : Nat} {s : Sto} : dOrd (.str (mkS [c])) s = .ok (.int c) s := rfl
theorem dIn_sign {c : Nat} {z : List Nat} {s : Sto} : dIn (.str (mkS [c])) (.str (mkS z)) s = .ok (.bl (decide (c ∈ z))) s := rfl
theorem dNotIn_sign {c : Nat} {z : List Nat} {s : Sto} : dNotIn (.str (mkS [c])) (.str (mkS z)) s = .ok (.bl (!decide (c ∈ z))) s := rfl
theorem dIn_two {p a b : List Nat} {s : Sto} : dIn (.str (mkS p)) (.tup [.str (mkS a), .str (mkS b)]) s = .ok (.bl (a == p || b == p)) s := by
  have e : inB s (.str (mkS p)) (.tup [.str (mkS a), .str (mkS b)]) = some ((mkS a == mkS p) || ((mkS b == mkS p) || false)) := rfl
  simp only [dIn, e, Option.map_some, ofO_some, mkS_beq, Bool.or_false]
theorem dNotIn_two {p a b : List Nat} {s : Sto} : dNotIn (.str (mkS p)) (.tup [.str (mkS a), .str (mkS b)]) s = .ok (.bl (!(a == p || b == p))) s := by
  have e : inB s (.str (mkS p)) (.tup [.str (mkS a), .str (mkS b)]) = some ((mkS a == mkS p) || ((mkS b == mkS p) || false)) := rfl
  simp only [dNotIn, e, Option.map_some, ofO_some, mkS_beq, Bool.or_false]
theorem dNotIn_three {n a b c : Int} {s : Sto} : dNotIn (.int n) (.tup [.int a, .int b, .int c]) s = .ok (.bl (!(a == n || (b == n || c == n)))) s := by
  have e : inB s (.int n) (.tup [.int a, .int b, .int c]) = some ((a == n) || ((b == n) || ((c == n) || false))) := rfl
  simp only [dNotIn, e, Option.map_some, ofO_some, Bool.or_false]
theorem asB_map {α : Type} (q : α → Bool) : ∀ l : List α, asB (l.map fun a => .bl (q a)) = some (l.map q)
  | [] => rfl
  | a :: r => by simp only [List.map_cons, asB, asB_map q r, Option.map_some]
theorem dAll_map {α : Type} {q : α → Bool} {l : List α} {s : Sto} : dAll (.lst (l.map fun a => .bl (q a))) s = .ok (.bl (l.all q)) s := by
  simp only [dAll, asL_lst, Option.bind_some, asB_map, Option.map_some, ofO_some, List.all_map]
  rfl
theorem dAny_map {α : Type} {q : α → Bool} {l : List α} {s : Sto} : dAny (.lst (l.map fun a => .bl (q a))) s = .ok (.bl (l.any q)) s := by
  simp only [dAny, asL_lst, Option.bind_some, asB_map, Option.map_some, ofO_some, List.any_map]
  rfl
/-! slices -/
theorem cut_tail {α : Type} (x : α) (xs : List α) : cutD (x :: xs) (some 1) none = xs := by
  have h1 : HT.sIx (x :: xs).length 0 (some 1) = 1 := by
    have := HT.sIx_nat (x :: xs).length 0 1
    rw [show ((1 : Nat) : Int) = 1 from rfl] at this
    rw [this, List.length_cons]; omega
  unfold cutD
  rw [h1, HT.sIx_none, List.drop_one, List.tail_cons, List.length_cons, Nat.add_sub_cancel, List.take_length]
theorem cut_take {α : Type} (xs : List α) (k : Nat) : cutD xs none (some (k : Int)) = xs.take k := by
  unfold cutD
  rw [HT.sIx_none, HT.sIx_nat, List.drop_zero, Nat.sub_zero]
  by_cases h : k ≤ xs.length
  · rw [Nat.min_eq_left h]
  · rw [Nat.min_eq_right (by omega), List.take_length, List.take_of_length_le (by omega)]
theorem cut_one {α : Type} (xs : List α) : cutD xs none (some 1) = xs.take 1 := cut_take xs 1
theorem cut_init {α : Type} (xs : List α) : cutD xs none (some (-1)) = xs.dropLast := by
  unfold cutD
  have h1 : HT.sIx xs.length xs.length (some (-1)) = xs.length - 1 := by
    show (if (-1 : Int) < 0 then (-1 + (xs.length : Int)).toNat else min (-1 : Int).toNat xs.length) = _
    rw [if_pos (by decide)]
    omega
  rw [HT.sIx_none, h1, List.drop_zero, Nat.sub_zero, List.dropLast_eq_take]
theorem cutS_one (l : List Nat) : cutS (mkS l) none (some 1) = mkS (l.take 1) := by
  have e : cutS (mkS l) none (some 1) = mkS (cutD l none (some 1)) := by
    unfold cutS cutD
    rw [mkS_len]
  rw [e, cut_one]
theorem dSl_str {nw : List Dt → Sto → Out Dt} {z : Str} {lo hi : Option Int} {s : Sto} : dSl nw (.str z) lo hi s = .ok (.str (cutS z lo hi)) s := rfl
/-- a list of levels -/
abbrev lvs (ps : List (List Nat)) : List Dt := ps.map fun l => .str (mkS l)
theorem dEq_lst1 {p q : List Nat} {s : Sto} : dEq (.lst [.str (mkS p)]) (.lst [.str (mkS q)]) s = .ok (.bl (p == q)) s := by
  have e : dEq (.lst [.str (mkS p)]) (.lst [.str (mkS q)]) s = .ok (.bl ((mkS p == mkS q) && true)) s := by
    have : dEqB s (.lst [.str (mkS p)]) (.lst [.str (mkS q)]) = some ((mkS p == mkS q) && true) := by
      simp [dEqB, toPyS, toPy, toPys, PyData.depth, PyData.depthAll, PyData.eqv, PyData.eqvAll]
    simp only [dEq, this, Option.map_some, ofO_some]
  rw [e, mkS_beq, Bool.and_true]
theorem dEq_nil1 {q : List Nat} {s : Sto} : dEq (.lst []) (.lst [.str (mkS q)]) s = .ok (.bl false) s := by
  have : dEqB s (.lst []) (.lst [.str (mkS q)]) = some false := by
    simp [dEqB, toPyS, toPy, toPys, PyData.depth, PyData.depthAll, PyData.eqv, PyData.eqvAll]
  simp only [dEq, this, Option.map_some, ofO_some]
theorem str_obj {a b : List Nat} : dAdd nwF (.str (mkS a)) (.str (mkS b)) = fun s => if a.length + b.length ≤ 1000000 then .ok (.str (mkS (a ++ b))) s else .bad := by
  funext s
  have e : mkS a ++ mkS b = mkS (a ++ b) := TL.ext_tl (TL.tl_append _ _)
  simp only [dAdd, mkS_len, e]
theorem asS_lvs (ps : List (List Nat)) : asS (lvs ps) = some (ps.map mkS) := by
  have := asS_map (ps.map mkS)
  rw [List.map_map] at this
  exact this
theorem sum_mkS (ps : List (List Nat)) : ((ps.map mkS).map (·.length)).sum = (ps.map (·.length)).sum := by
  rw [List.map_map]
  congr 1
theorem dJoin_lst {ps : List (List Nat)} {s : Sto} {d : Dt} (hd : asQ s d = some (lvs ps)) (h : (ps.map (·.length)).sum + ps.length ≤ 1000000) : dJoin (.str (mkS [47])) d s = .ok (.str (mkS (TL.joinL [47] ps))) s := by
  simp only [dJoin, hd, Option.bind_some, asS_lvs]
  rw [sum_mkS, List.length_map, if_pos (by rw [mkS_len]; simpa using h), List.map_map]
  have : ((fun x : Str => x.cps.toList) ∘ mkS) = id := by funext l; rfl
  rw [this, List.map_id]
theorem splC_last_ne (l : List Nat) : ∃ p, (splC 47 l).getLast? = some p := by
  cases e : (splC 47 l).getLast? with
  | none => exact absurd (List.getLast?_eq_none_iff.mp e) (splC_ne 47 l)
  | some p => exact ⟨p, rfl⟩
@[simp] theorem ev_tryH {ih ie : Nat} {tb : List Nat} {fb : Sx} {env : En} {s : Sto} : sTryH ih ie tb fb env s = (match fb env s with | .exc c env' s' => if c ∈ tb ∧ ie < env'.length then .fl (.nx ((env'.set ih (some (.exc c))).set ie none)) s' else .bad | r => r) := rfl
@[simp] theorem ev_setI {fo fi fv : Ex} {env : En} {s : Sto} : sSetI fo fi fv env s = sBnd (fv env) env (fun v => sBnd (fo env) env fun x => sBnd (fi env) env fun y s => match putAt x y v s with | some s' => .fl (.nx env) s' | none => .bad) s := rfl
@[simp] theorem ev_raise {c : Nat} {env : En} {s : Sto} : sRaise c env s = .exc c env s := rfl
@[simp] theorem dIsx_exc {tb : List (Nat × Bool)} {c : Nat} {s : Sto} : dIsx tb (.exc c) s = ofO s ((tb.lookup c).map .bl) := rfl
end Pd
/-! What stands in the store, part by part (parts stand apart). -/
namespace Pd
open PySem L2
/-- an assertion about some places of the store -/
structure SP where
  P : List Nat → Sto → Prop
  loc : ∀ {fp : List Nat} {s s' : Sto}, (∀ i ∈ fp, s'[i]? = s[i]?) → P fp s → P fp s'
  bd : ∀ {fp : List Nat} {s : Sto}, P fp s → ∀ i ∈ fp, i < s.length
def At (i : Nat) (m : Mo) : SP where
  P := fun fp s => fp = [i] ∧ s[i]? = some m
  loc := fun h ⟨e, q⟩ => ⟨e, by rw [h _ (by rw [e]; exact List.mem_singleton_self _)]; exact q⟩
  bd := fun ⟨e, q⟩ j hj => by
    rw [e, List.mem_singleton] at hj
    rw [hj]
    exact (List.getElem?_eq_some_iff.mp q).1
def Exi {α : Type} (f : α → SP) : SP where
  P := fun fp s => ∃ a, (f a).P fp s
  loc := fun h ⟨a, q⟩ => ⟨a, (f a).loc h q⟩
  bd := fun ⟨a, q⟩ => (f a).bd q
def Pu (p : Prop) : SP where
  P := fun fp _ => fp = [] ∧ p
  loc := fun _ q => q
  bd := fun ⟨e, _⟩ i hi => by rw [e] at hi; cases hi
def Emp : SP := ⟨fun fp _ => fp = [], fun _ h => h, fun e i hi => by rw [e] at hi; cases hi⟩
def Star (A B : SP) : SP where
  P := fun fp s => ∃ f1 f2, fp = f1 ++ f2 ∧ A.P f1 s ∧ B.P f2 s
  loc := fun h ⟨f1, f2, e, q1, q2⟩ => ⟨f1, f2, e, A.loc (fun i hi => h i (by rw [e]; exact List.mem_append_left _ hi)) q1, B.loc (fun i hi => h i (by rw [e]; exact List.mem_append_right _ hi)) q2⟩
  bd := fun ⟨f1, f2, e, q1, q2⟩ i hi => by
    rw [e] at hi
    rcases List.mem_append.mp hi with hi | hi
    · exact A.bd q1 i hi
    · exact B.bd q2 i hi
def Sts : List SP → SP
  | [] => Emp
  | A :: L => Star A (Sts L)
def Own (L : List SP) (s : Sto) : Prop := ∃ fp : List Nat, fp.Nodup ∧ (Sts L).P fp s
section
variable {A B : SP} {L L' R : List SP} {s : Sto}
theorem own_nil : Own [] s := ⟨[], List.nodup_nil, rfl⟩
theorem Sts.perm (h : L.Perm L') : ∀ {fp : List Nat}, (Sts L).P fp s → ∃ fp', fp'.Perm fp ∧ (Sts L').P fp' s := by
  induction h with
  | nil => exact fun q => ⟨_, List.Perm.refl _, q⟩
  | cons x _ ih =>
    rintro fp ⟨f1, f2, e, q1, q2⟩
    obtain ⟨f2', p, q⟩ := ih q2
    exact ⟨f1 ++ f2', by rw [e]; exact List.Perm.append_left _ p, f1, f2', rfl, q1, q⟩
  | swap x y l =>
    rintro fp ⟨f1, f2, e, q1, f3, f4, e2, q2, q3⟩
    refine ⟨f3 ++ (f1 ++ f4), ?_, f3, f1 ++ f4, rfl, q2, f1, f4, rfl, q1, q3⟩
    rw [e, e2, ← List.append_assoc, ← List.append_assoc]
    exact List.Perm.append_right _ List.perm_append_comm
  | trans _ _ ih1 ih2 =>
    intro fp q
    obtain ⟨f1, p1, q1⟩ := ih1 q
    obtain ⟨f2, p2, q2⟩ := ih2 q1
    exact ⟨f2, p2.trans p1, q2⟩
theorem Own.perm (o : Own L s) (h : L.Perm L') : Own L' s := by
  obtain ⟨fp, nd, q⟩ := o
  obtain ⟨fp', p, q'⟩ := Sts.perm h q
  exact ⟨fp', p.nodup_iff.mpr nd, q'⟩
theorem perm_pull {α : Type} : ∀ (L : List α) (k : Nat) (h : k < L.length), L.Perm (L[k] :: L.eraseIdx k)
  | a :: L, 0, _ => List.Perm.refl _
  | a :: L, k + 1, h => ((perm_pull L k (by simpa using h)).cons a).trans (List.Perm.swap _ _ _)
/-- the part at a place comes to the front -/
theorem Own.pull (k : Nat) (o : Own L s) (h : k < L.length := by decide) : Own (L[k] :: L.eraseIdx k) s := o.perm (perm_pull L k h)
theorem perm_push {α : Type} (a : α) : ∀ (L : List α) (k : Nat), k ≤ L.length → (a :: L).Perm (L.insertIdx k a)
  | L, 0, _ => List.Perm.refl _
  | b :: L, k + 1, h => (List.Perm.swap _ _ _).trans ((perm_push a L k (by simpa using h)).cons b)
/-- the front goes to a place -/
theorem Own.push (k : Nat) (o : Own (A :: L) s) (h : k ≤ L.length := by decide) : Own (L.insertIdx k A) s := o.perm (perm_push A L k h)
theorem Own.drop (o : Own (A :: L) s) : Own L s := by
  obtain ⟨fp, nd, f1, f2, e, q1, q2⟩ := o
  rw [e] at nd
  exact ⟨f2, (List.nodup_append.mp nd).2.1, q2⟩
theorem Own.get {i : Nat} {m : Mo} (o : Own (At i m :: L) s) : s[i]? = some m := by
  obtain ⟨fp, nd, f1, f2, e, q1, q2⟩ := o
  exact q1.2
theorem Own.lt {i : Nat} {m : Mo} (o : Own (At i m :: L) s) : i < s.length := (List.getElem?_eq_some_iff.mp o.get).1
theorem Own.set {i : Nat} {m : Mo} (o : Own (At i m :: L) s) (m' : Mo) : Own (At i m' :: L) (s.set i m') := by
  have hl := o.lt
  obtain ⟨fp, nd, f1, f2, e, ⟨q1, q3⟩, q2⟩ := o
  refine ⟨fp, nd, f1, f2, e, ⟨q1, List.getElem?_set_self hl⟩, (Sts L).loc (fun j hj => ?_) q2⟩
  rw [e, q1] at nd
  refine List.getElem?_set_ne fun z => ?_
  subst z
  exact (List.nodup_append.mp nd).2.2 i (List.mem_singleton_self _) i hj rfl
theorem Own.app (o : Own L s) (m : List Mo) : Own L (s ++ m) := by
  obtain ⟨fp, nd, q⟩ := o
  exact ⟨fp, nd, (Sts L).loc (fun i hi => List.getElem?_append_left ((Sts L).bd q i hi)) q⟩
theorem Own.new (o : Own L s) (m : Mo) : Own (At s.length m :: L) (s ++ [m]) := by
  have o2 := o
  obtain ⟨fp, nd, q⟩ := o
  refine ⟨[s.length] ++ fp, ?_, [s.length], fp, rfl, ⟨rfl, by simp⟩, (Sts L).loc (fun i hi => List.getElem?_append_left ((Sts L).bd q i hi)) q⟩
  refine List.nodup_append.mpr ⟨by simp, nd, fun a ha b hb => ?_⟩
  rw [List.mem_singleton] at ha
  have := (Sts L).bd q b hb
  omega
theorem Own.ne {i j : Nat} {m n : Mo} (o : Own (At i m :: At j n :: L) s) : i ≠ j := by
  obtain ⟨fp, nd, f1, f2, e, ⟨q1, q3⟩, f3, f4, e2, ⟨q4, _⟩, _⟩ := o
  rw [e, e2, q1, q4] at nd
  intro z
  subst z
  simp at nd
theorem own_ex {α : Type} {f : α → SP} : Own (Exi f :: L) s ↔ ∃ a, Own (f a :: L) s :=
  ⟨fun ⟨fp, nd, f1, f2, e, ⟨a, q1⟩, q2⟩ => ⟨a, fp, nd, f1, f2, e, q1, q2⟩, fun ⟨a, fp, nd, f1, f2, e, q1, q2⟩ => ⟨fp, nd, f1, f2, e, ⟨a, q1⟩, q2⟩⟩
theorem own_pu {p : Prop} : Own (Pu p :: L) s ↔ p ∧ Own L s :=
  ⟨fun ⟨fp, nd, f1, f2, e, ⟨e1, q1⟩, q2⟩ => ⟨q1, fp, nd, by rw [e, e1]; exact q2⟩, fun ⟨q1, fp, nd, q2⟩ => ⟨fp, nd, [], fp, rfl, ⟨rfl, q1⟩, q2⟩⟩
theorem sts_app : ∀ {L R : List SP} {fp : List Nat}, (Sts (L ++ R)).P fp s ↔ ∃ f1 f2, fp = f1 ++ f2 ∧ (Sts L).P f1 s ∧ (Sts R).P f2 s
  | [], R, fp => ⟨fun h => ⟨[], fp, rfl, rfl, h⟩, fun ⟨f1, f2, e, e1, h⟩ => by
      have e1 : f1 = [] := e1
      rw [e, e1]
      exact h⟩
  | A :: L, R, fp => ⟨fun ⟨f1, f2, e, q1, q2⟩ => by
      obtain ⟨f3, f4, e2, q3, q4⟩ := sts_app.mp q2
      exact ⟨f1 ++ f3, f4, by rw [e, e2, List.append_assoc], ⟨f1, f3, rfl, q1, q3⟩, q4⟩, fun ⟨f1, f2, e, ⟨f3, f4, e2, q3, q4⟩, q2⟩ => ⟨f3, f4 ++ f2, by rw [e, e2, List.append_assoc], q3, sts_app.mpr ⟨f4, f2, rfl, q4, q2⟩⟩⟩
theorem own_sts : Own (Sts R :: L) s ↔ Own (R ++ L) s :=
  ⟨fun ⟨fp, nd, f1, f2, e, q1, q2⟩ => ⟨fp, nd, sts_app.mpr ⟨f1, f2, e, q1, q2⟩⟩, fun ⟨fp, nd, q⟩ => by
    obtain ⟨f1, f2, e, q1, q2⟩ := sts_app.mp q
    exact ⟨fp, nd, f1, f2, e, q1, q2⟩⟩
theorem range_getD : ∀ (L : List SP) (n : Nat), n ≤ L.length → (List.range n).map (fun k => L.getD k Emp) = L.take n
  | L, 0, _ => rfl
  | [], n + 1, h => by simp at h
  | A :: L, n + 1, h => by
    rw [List.range_succ_eq_map, List.map_cons, List.map_map, List.take_succ_cons]
    exact congrArg (A :: ·) (range_getD L n (by simpa using h))
/-- the first parts in another order -/
theorem Own.ix (ix : List Nat) (o : Own L s) (h : ix.Perm (List.range ix.length) := by decide) (hl : ix.length ≤ L.length := by simp) : Own (ix.map (fun k => L.getD k Emp) ++ L.drop ix.length) s := by
  refine o.perm ?_
  have e := range_getD L ix.length hl
  have p : (L.take ix.length).Perm (ix.map fun k => L.getD k Emp) := by
    rw [← e]
    exact (h.map _).symm
  have q := p.append_right (L.drop ix.length)
  rw [List.take_append_drop] at q
  exact q
theorem own2 {A B : SP} {L : List SP} {s : Sto} (o : Own (A :: B :: L) s) : Own (B :: A :: L) s := o.pull 1 (by simp)
theorem own3 {A B C : SP} {L : List SP} {s : Sto} (o : Own (A :: B :: C :: L) s) : Own (C :: A :: B :: L) s := o.pull 2 (by simp)
theorem own4 {A B C D : SP} {L : List SP} {s : Sto} (o : Own (A :: B :: C :: D :: L) s) : Own (D :: A :: B :: C :: L) s := o.pull 3 (by simp)
theorem own5 {A B C D E : SP} {L : List SP} {s : Sto} (o : Own (A :: B :: C :: D :: E :: L) s) : Own (E :: A :: B :: C :: D :: L) s := o.pull 4 (by simp)
theorem own6 {A B C D E F : SP} {L : List SP} {s : Sto} (o : Own (A :: B :: C :: D :: E :: F :: L) s) : Own (F :: A :: B :: C :: D :: E :: L) s := o.pull 5 (by simp)
/-- one assertion for another -/
theorem Own.imp {A' : SP} (o : Own (A :: L) s) (h : ∀ fp, A.P fp s → A'.P fp s) : Own (A' :: L) s := by
  obtain ⟨fp, nd, f1, f2, e, q1, q2⟩ := o
  exact ⟨fp, nd, f1, f2, e, h _ q1, q2⟩
end
end Pd
namespace Pd
open PySem L2
/-! ### more evaluation rules -/
/-- a while loop by a measure -/
theorem wh_meas {t : Tx} {body : Sx} (I : Nat → En → Sto → Prop) (P : En → Sto → Prop)
    (h : ∀ n env s, I n env s → (∃ s1, t env s = .ok false s1 ∧ P env s1) ∨ (∃ s1, t env s = .ok true s1 ∧ ∃ m e s', m < n ∧ (body env s1 = .fl (.nx e) s' ∨ body env s1 = .fl (.ct e) s') ∧ I m e s')) :
    ∀ (fuel n : Nat) (env : En) (s : Sto), n < fuel → I n env s → ∃ e s', whGo t body fuel env s = .fl (.nx e) s' ∧ P e s'
  | 0, n, env, s, hn, _ => by omega
  | fuel + 1, n, env, s, hn, hi => by
    rcases h n env s hi with ⟨s1, e1, hp⟩ | ⟨s1, e1, m, e, s', hm, hb, hi'⟩
    · exact ⟨env, s1, by simp [whGo, e1], hp⟩
    · obtain ⟨e2, s2, h1, h2⟩ := wh_meas I P h fuel m e s' (by omega) hi'
      refine ⟨e2, s2, ?_, h2⟩
      rcases hb with hb | hb
      · simp [whGo, e1, hb, h1]
      · simp [whGo, e1, hb, h1]
/-- a for loop over written-out items -/
theorem for_map0 {α : Type} {tg : Tg} {body : Sx} {ok : Sto → Prop} {f : α → Dt} (I : List α → En → Sto → Prop) (all : List α) : ∀ (l pre : List α) (env : En) (s : Sto), all = pre ++ l → I pre env s →
    (∀ pre a post env s, all = pre ++ a :: post → I pre env s → ∃ env1, tg (f a) env s = some env1 ∧ ∃ e s', (body env1 s = .fl (.nx e) s' ∨ body env1 s = .fl (.ct e) s') ∧ I (pre ++ [a]) e s') → (∀ pre env s, I pre env s → ok s) →
    ∃ e s', forGo tg body ok (l.map f) env s = .fl (.nx e) s' ∧ I all e s'
  | [], pre, env, s, ha, hi, hs, hd => ⟨env, s, by simp only [List.map_nil, forGo, if_pos (hd pre env s hi)], by rw [ha, List.append_nil]; exact hi⟩
  | a :: r, pre, env, s, ha, hi, hs, hd => by
    obtain ⟨env1, h1, e, s', h2, h3⟩ := hs pre a r env s ha hi
    obtain ⟨e2, s2, h4, h5⟩ := for_map0 I all r (pre ++ [a]) e s' (by rw [ha, List.append_assoc]; rfl) h3 hs hd
    refine ⟨e2, s2, ?_, h5⟩
    rcases h2 with h2 | h2
    · simp only [List.map_cons, forGo, if_pos (hd pre env s hi), h1, h2]; exact h4
    · simp only [List.map_cons, forGo, if_pos (hd pre env s hi), h1, h2]; exact h4
theorem for_map {α : Type} {tg : Tg} {body : Sx} {ok : Sto → Prop} {f : α → Dt} (I : List α → En → Sto → Prop) (l : List α) (env : En) (s : Sto) (h0 : I [] env s)
    (hs : ∀ pre a post env s, l = pre ++ a :: post → I pre env s → ∃ env1, tg (f a) env s = some env1 ∧ ∃ e s', (body env1 s = .fl (.nx e) s' ∨ body env1 s = .fl (.ct e) s') ∧ I (pre ++ [a]) e s') (hd : ∀ pre env s, I pre env s → ok s) :
    ∃ e s', forGo tg body ok (l.map f) env s = .fl (.nx e) s' ∧ I l e s' := for_map0 I l l [] env s rfl h0 hs hd
/-- turns of a for loop that leave the store as it is -/
theorem for_skip {α : Type} {tg : Tg} {body : Sx} {ok : Sto → Prop} {f : α → Dt} {s : Sto} (E : En → Prop) (hok : ok s) : ∀ (l : List α) (rest : List Dt) (env : En), E env → (∀ a ∈ l, ∀ env, E env → ∃ env1, tg (f a) env s = some env1 ∧ ∃ e, body env1 s = .fl (.nx e) s ∧ E e) →
    ∃ e, E e ∧ forGo tg body ok (l.map f ++ rest) env s = forGo tg body ok rest e s
  | [], rest, env, he, _ => ⟨env, he, rfl⟩
  | a :: l, rest, env, he, h => by
    obtain ⟨env1, h1, e, h2, h3⟩ := h a List.mem_cons_self env he
    obtain ⟨e2, h4, h5⟩ := for_skip E hok l rest e h3 fun a ha => h a (List.mem_cons_of_mem _ ha)
    refine ⟨e2, h4, ?_⟩
    rw [← h5]
    simp only [List.map_cons, List.cons_append, forGo, if_pos hok, h1, h2]
theorem putAt_at {s : Sto} {i v : Nat} {l : List Dt} {d : Dt} (h : s[i]? = some (.lst l)) (hv : v < l.length) : Pd.putAt (.obj i) (.int (v : Int)) d s = some (s.set i (.lst (l.set v d))) := by
  have e : ixN l.length (v : Int) = some v := by
    unfold ixN
    rw [if_pos (Int.natCast_nonneg v), if_pos (by omega)]
    simp
  simp only [Pd.putAt, lstAt_obj h, e, Option.map_some]
theorem cut_drop {α : Type} (xs : List α) (k : Nat) : cutD xs (some (k : Int)) none = xs.drop k := by
  unfold cutD
  rw [HT.sIx_none, HT.sIx_nat]
  by_cases h : k ≤ xs.length
  · rw [Nat.min_eq_left h, List.take_of_length_le (by rw [List.length_drop]; omega)]
  · rw [Nat.min_eq_right (by omega), List.drop_length, List.drop_of_length_le (by omega), List.take_nil]
theorem app_get {s : Sto} {m : List Mo} {i : Nat} {o : Mo} (h : s[i]? = some o) : (s ++ m)[i]? = some o := by
  rw [List.getElem?_append_left (List.getElem?_eq_some_iff.mp h).1]
  exact h
theorem truD_at {s : Sto} {i : Nat} {l : List Dt} (h : s[i]? = some (.lst l)) : truD s (.obj i) = some (!l.isEmpty) := truD_obj h
theorem dExt_obj {s : Sto} {i : Nat} {l m : List Dt} {y : Dt} (h : s[i]? = some (.lst l)) (hy : trkL s y = some m) (hz : l.length + m.length ≤ 1000000) : dExt (.obj i) y s = .ok .non (s.set i (.lst (l ++ m))) := by
  simp only [dExt, lstAt_obj h, hy]
  rw [if_pos (by rw [sizeLine_eq]; omega)]
theorem trkL_lst {s : Sto} {l : List Dt} : trkL s (.lst l) = some l := rfl
theorem trkL_obj {s : Sto} {i : Nat} {l : List Dt} (h : s[i]? = some (.lst l)) : trkL s (.obj i) = some l := by simp only [trkL, h]
theorem dPop0_obj {s : Sto} {i : Nat} {d : Dt} {l : List Dt} (h : s[i]? = some (.lst (d :: l))) : dPopAt (.obj i) (.int 0) s = .ok d (s.set i (.lst l)) := by
  have e : ixN (d :: l).length 0 = some 0 := by
    unfold ixN
    rw [if_pos (by decide), if_pos (by simp)]
    rfl
  simp only [dPopAt, lstAt_obj h, e, List.getElem?_cons_zero, List.eraseIdx_cons_zero]
theorem dApp_at {s : Sto} {i : Nat} {l : List Dt} {y : Dt} (h : s[i]? = some (.lst l)) (hz : l.length < 1000000) : dApp (.obj i) y s = .ok .non (s.set i (.lst (l ++ [y]))) := dApp_obj h (by rw [sizeLine_eq]; omega)
theorem dAdd_any {nw : List Dt → Sto → Out Dt} {x y : Dt} {l m : List Dt} {s : Sto} (hx : trkL s x = some l) (hy : trkL s y = some m) (h : l.length + m.length ≤ 1000000) : dAdd nw x y s = nw (l ++ m) s := by
  have hz : l.length + m.length ≤ sizeLine := by rw [sizeLine_eq]; omega
  cases x with
  | lst a =>
    have e : a = l := by simpa [trkL] using hx
    subst e
    simp only [dAdd, show trkL s (.lst a) = some a from rfl, hy, if_pos hz]
  | obj i =>
    simp only [dAdd, hx, hy, if_pos hz]
  | _ => simp [trkL] at hx
/-- texts as items of dicts -/
theorem valA_cons_eq {κ α : Type} [DecidableEq κ] {k : κ} {v : α} {r : List (κ × α)} : valA ((k, v) :: r) k = some v := by simp [valA]
theorem valA_cons_ne {κ α : Type} [DecidableEq κ] {k j : κ} {v : α} {r : List (κ × α)} (h : k ≠ j) : valA ((k, v) :: r) j = valA r j := by simp [valA, h]
theorem valA_nil {κ α : Type} [DecidableEq κ] {j : κ} : valA ([] : List (κ × α)) j = none := rfl
theorem Own.mem {L : List SP} {s : Sto} {i : Nat} {m : Mo} (o : Own L s) (h : At i m ∈ L) : s[i]? = some m := by
  obtain ⟨a, b, e⟩ := List.append_of_mem h
  rw [e] at o
  exact (o.perm List.perm_middle).get
/-! ### lists that a def tells, of the store or not -/
def OrS (A B : SP) : SP where
  P := fun fp s => A.P fp s ∨ B.P fp s
  loc := fun h q => q.elim (fun q => .inl (A.loc h q)) fun q => .inr (B.loc h q)
  bd := fun q => q.elim (fun q => A.bd q) fun q => B.bd q
theorem own_or {A B : SP} {L : List SP} {s : Sto} : Own (OrS A B :: L) s ↔ Own (A :: L) s ∨ Own (B :: L) s :=
  ⟨fun ⟨fp, nd, f1, f2, e, q1, q2⟩ => q1.elim (fun q => .inl ⟨fp, nd, f1, f2, e, q, q2⟩) fun q => .inr ⟨fp, nd, f1, f2, e, q, q2⟩,
   fun h => h.elim (fun ⟨fp, nd, f1, f2, e, q, q2⟩ => ⟨fp, nd, f1, f2, e, .inl q, q2⟩) fun ⟨fp, nd, f1, f2, e, q, q2⟩ => ⟨fp, nd, f1, f2, e, .inr q, q2⟩⟩
def LsA (r : Dt) (l : List Dt) : SP := OrS (Pu (r = .lst l)) (Exi fun p => Sts [Pu (r = .obj p), At p (.lst l)])
theorem own_ls {r : Dt} {l : List Dt} {L : List SP} {s : Sto} : Own (LsA r l :: L) s ↔ (r = .lst l ∧ Own L s) ∨ ∃ p, r = .obj p ∧ Own (At p (.lst l) :: L) s := by
  unfold LsA
  simp only [own_or, own_pu, own_ex, own_sts]
  constructor
  · rintro (h | ⟨p, h⟩)
    · exact .inl h
    · obtain ⟨e, h⟩ := own_pu.mp h
      exact .inr ⟨p, e, h⟩
  · rintro (h | ⟨p, e, h⟩)
    · exact .inl h
    · exact .inr ⟨p, own_pu.mpr ⟨e, h⟩⟩
theorem Own.trk {r : Dt} {l : List Dt} {L : List SP} {s : Sto} (o : Own (LsA r l :: L) s) : trkL s r = some l := by
  rcases own_ls.mp o with ⟨e, _⟩ | ⟨p, e, h⟩
  · rw [e]; rfl
  · rw [e]; exact trkL_obj h.get
theorem zeros_app (n : Nat) : List.replicate n (Dt.int 0) ++ [.int 0] = List.replicate (n + 1) (.int 0) := by rw [List.replicate_succ']
abbrev zs (n : Nat) : Mo := .lst (List.replicate n (.int 0))
/-- the town, at most so many draws -/
def Tw (t N : Nat) : SP := Exi fun n => Sts [Pu (n ≤ N), At t (zs n)]
theorem own_tw {t N : Nat} {R : List SP} {s : Sto} : Own (Tw t N :: R) s ↔ ∃ n, n ≤ N ∧ Own (At t (zs n) :: R) s := by
  unfold Tw
  simp only [own_ex, own_sts, List.cons_append, List.nil_append, own_pu]
theorem Own.more {t N M : Nat} {R : List SP} {s : Sto} (o : Own (Tw t N :: R) s) (h : N ≤ M) : Own (Tw t M :: R) s := by
  obtain ⟨n, hn, o⟩ := own_tw.mp o
  exact own_tw.mpr ⟨n, by omega, o⟩
/-! ### dicts with written keys -/
abbrev kS (x : String) : Key := Sum.inr (Str.ofString x)
theorem dget_of {s : Sto} {j : Nat} {kvs : List (Key × Dt)} {k : Str} {v : Dt} (h : s[j]? = some (.dic kvs)) (hv : valA kvs (Sum.inr k) = some v) : dDget (.obj j) (.str k) s = .ok v s := by
  simp only [dDget, dgetD, h, keyD, Option.map_some, hv]
theorem dput_of {s : Sto} {j : Nat} {kvs : List (Key × Dt)} {k : Str} {v : Dt} (h : s[j]? = some (.dic kvs)) (hl : kvs.length < 1000000) : dputD s (.obj j) (.str k) v = some (s.set j (.dic (putA kvs (Sum.inr k) v))) := by
  simp only [dputD, h, keyD, Option.bind_some]
  rw [if_pos (by rw [sizeLine_eq]; omega)]
@[simp] theorem ev_dput {fo fi fv : Ex} {env : En} {s : Sto} : sDput fo fi fv env s = sBnd (fv env) env (fun v => sBnd (fo env) env fun x => sBnd (fi env) env fun y s => match dputD s x y v with | some s' => .fl (.nx env) s' | none => .bad) s := rfl
theorem zip_fst {α β : Type} : ∀ {a : List α} {b : List β}, a.length = b.length → (a.zip b).map (·.1) = a
  | [], [], _ => rfl
  | x :: a, y :: b, h => by rw [List.zip_cons_cons, List.map_cons, zip_fst (by simpa using h)]
  | [], _ :: _, h => by simp at h
  | _ :: _, [], h => by simp at h
theorem zip_snd {α β : Type} : ∀ {a : List α} {b : List β}, a.length = b.length → (a.zip b).map (·.2) = b
  | [], [], _ => rfl
  | x :: a, y :: b, h => by rw [List.zip_cons_cons, List.map_cons, zip_snd (by simpa using h)]
  | [], _ :: _, h => by simp at h
  | _ :: _, [], h => by simp at h
/-! ### dicts walked -/
theorem set_self {s : Sto} {i : Nat} {m : Mo} (h : s[i]? = some m) : s.set i m = s := by
  apply List.ext_getElem?
  intro j
  by_cases e : i = j
  · subst e; rw [List.getElem?_set_self (List.getElem?_eq_some_iff.mp h).1, h]
  · rw [List.getElem?_set_ne e]
theorem lock_pure {fo f : Ex} {env : En} {s s1 : Sto} {i : Nat} {mo mo' : Mo} {d : Dt} (h1 : fo env s = .ok (.obj i) s1) (h2 : s[i]? = some mo) (h3 : lockM mo = some mo') (h4 : f env (s.set i mo') = .ok d (s.set i mo')) : eLock fo f env s = .ok d s := by
  have h5 : (s.set i mo')[i]? = some mo' := List.getElem?_set_self (List.getElem?_eq_some_iff.mp h2).1
  simp only [eLock, h1, h2, h3, h4, unlockO, if_pos h5, List.set_set, set_self h2]
theorem lock_run {fo f : Ex} {env : En} {s s1 s' : Sto} {i : Nat} {mo mo' : Mo} {d : Dt} (h1 : fo env s = .ok (.obj i) s1) (h2 : s[i]? = some mo) (h3 : lockM mo = some mo') (h4 : f env (s.set i mo') = .ok d s') (h5 : s'[i]? = some mo') : eLock fo f env s = .ok d (s'.set i mo) := by
  simp only [eLock, h1, h2, h3, h4, unlockO, if_pos h5]
theorem slock_run {fo : Ex} {f : Sx} {env : En} {s s1 s' : Sto} {i : Nat} {mo mo' : Mo} {fl : Fl} (h1 : fo env s = .ok (.obj i) s1) (h2 : s[i]? = some mo) (h3 : lockM mo = some mo') (h4 : f env (s.set i mo') = .fl fl s') (h5 : s'[i]? = some mo') : sLock fo f env s = .fl fl (s'.set i mo) := by
  simp only [sLock, h1, h2, h3, h4, unlockR, if_pos h5]
@[simp] theorem ev_keysL {f : Ex} {env : En} {s : Sto} : iKeysL f env s = bnd (β := List Dt × (Sto → Prop)) (f env) (fun d s => match d with
  | .obj i => match s[i]? with
    | some (.dicL kvs) => .ok (kvs.map fun kv => keyDt kv.1, fun s' => s'[i]? = some (.dicL kvs)) s
    | some (.ditL kvs) => if kvs.all (fun kv => decide (kv.1.length ≤ 1000)) = true then .ok (kvs.map fun kv => keysDt kv.1, fun s' => s'[i]? = some (.ditL kvs)) s else .bad
    | _ => .bad
  | _ => .bad) s := rfl
theorem ev_dnewK {env : En} {s : Sto} : eDnewK env s = .ok (.obj s.length) (s ++ [.dic []]) := rfl
theorem ev_dnewT {env : En} {s : Sto} : eDnewT env s = .ok (.obj s.length) (s ++ [.dit []]) := rfl
theorem ev_dpop1 {fo fe : Ex} {env : En} {s : Sto} : eDpop1 fo fe env s = bnd (fo env) (fun x s => if isDic s x = true then bnd (fe env) (fun y s => match dpopD s x y with | some (d, s') => .ok d s' | none => .bad) s else .bad) s := rfl
theorem isDic_dic {s : Sto} {i : Nat} {l : List (Key × Dt)} (h : s[i]? = some (.dic l)) : isDic s (.obj i) = true := by simp [isDic, h]
theorem dgetD_dic {s : Sto} {i : Nat} {l : List (Key × Dt)} {y : Dt} {k : Key} (h : s[i]? = some (.dic l)) (hk : keyD y = some k) : dgetD s (.obj i) y = some (valA l k) := by simp only [dgetD, h, hk, Option.map_some]
theorem keysOf_dic {s : Sto} {i : Nat} {l : List (Key × Dt)} (h : s[i]? = some (.dic l)) : keysOf s (.obj i) = some (l.map fun kv => keyDt kv.1) := by simp only [keysOf, h]
/-! ints sorted -/
theorem sortOk_ints : ∀ l : List Int, sortOk (l.map .int) = true
  | [] => rfl
  | i :: l => by
    simp only [List.map_cons, sortOk, mdD, List.all_cons, okD, Bool.true_and, List.all_map]
    simp [okD]
theorem dpts_all {l : List Dt} {n : Nat} (h : ∀ d ∈ l, dpt d = some n) : ∃ m, dpts l = some m ∧ m ≤ n := by
  induction l with
  | nil => exact ⟨0, rfl, Nat.zero_le _⟩
  | cons d l ih =>
    obtain ⟨m, h1, h2⟩ := ih fun x hx => h x (List.mem_cons_of_mem _ hx)
    refine ⟨max n m, ?_, by omega⟩
    simp only [dpts, h d List.mem_cons_self, h1]
theorem dNe_lst {l : List Dt} {n : Nat} {s : Sto} (h : ∀ d ∈ l, dpt d = some n) (hn : n ≤ 60) : dEq (.lst l) (.lst l) s = .ok (.bl true) s ∧ dNe (.lst l) (.lst l) s = .ok (.bl false) s := by
  obtain ⟨m, h1, h2⟩ := dpts_all h
  exact dEq_self (n := m + 1) (by simp only [dpt, h1, Option.map_some]) (by omega)
end Pd
/-! Parts found by a search; runs by steps. -/
namespace Pd
open PySem L2
section
variable {A B : SP} {L L1 L' R : List SP} {s : Sto}
inductive Tk : List SP → SP → List SP → Prop
  | hd {A : SP} {L : List SP} : Tk (A :: L) A L
  | tl {A B : SP} {L L1 : List SP} (h : Tk L A L1) : Tk (B :: L) A (B :: L1)
theorem Tk.perm {A : SP} : ∀ {L L1 : List SP}, Tk L A L1 → L.Perm (A :: L1)
  | _, _, .hd => List.Perm.refl _
  | _, _, .tl h => (h.perm.cons _).trans (List.Perm.swap _ _ _)
theorem Own.tk (o : Own L s) (h : Tk L A L1) : Own (A :: L1) s := o.perm h.perm
inductive Pm : List SP → List SP → Prop
  | rfl {L : List SP} : Pm L L
  | cons {A : SP} {L L1 L' : List SP} (h : Tk L A L1) (k : Pm L1 L') : Pm L (A :: L')
  | skip {B : SP} {L L' : List SP} (k : Pm L L') : Pm (B :: L) L'
theorem Pm.ex : ∀ {L L' : List SP}, Pm L L' → ∃ X, L.Perm (X ++ L')
  | _, _, .rfl => ⟨[], List.Perm.refl _⟩
  | _, _, .cons (A := A) h k => by
    obtain ⟨X, p⟩ := k.ex
    exact ⟨X, h.perm.trans ((p.cons _).trans List.perm_middle.symm)⟩
  | _, _, .skip (B := B) k => by
    obtain ⟨X, p⟩ := k.ex
    exact ⟨B :: X, p.cons _⟩
theorem Own.dropL : ∀ {X : List SP}, Own (X ++ L) s → Own L s
  | [], o => o
  | A :: X, o => Own.dropL (X := X) (Own.drop o)
theorem Own.pm (o : Own L s) (h : Pm L L') : Own L' s := by
  obtain ⟨X, p⟩ := h.ex
  exact (o.perm p).dropL
theorem Own.at_ {i : Nat} {m : Mo} (o : Own L s) (h : Tk L (At i m) L1) : s[i]? = some m := (o.tk h).get
theorem Own.setT {i : Nat} {m : Mo} (o : Own L s) (h : Tk L (At i m) L1) (m' : Mo) : Own (At i m' :: L1) (s.set i m') := (o.tk h).set m'
theorem Own.ltT {i : Nat} {m : Mo} (o : Own L s) (h : Tk L (At i m) L1) : i < s.length := (o.tk h).lt
end
/-! ### what stands at a place, for simp -/
section
variable {s : Sto} {i c : Nat}
theorem insD_at : insD s c (.obj i) = (match s[i]? with
    | some (.ins c' ds) => if c' = c then some (i, ds) else none
    | _ => none) := rfl
theorem isLst_at : isLst s (.obj i) = (match s[i]? with
    | some (.lst l) => some l
    | _ => none).isSome := rfl
theorem asL_at : asL s (.obj i) = (match s[i]? with
    | some (.lst l) => some l
    | _ => none) := rfl
theorem asQ_at : asQ s (.obj i) = (match s[i]? with
    | some (.lst l) => some l
    | _ => none) := rfl
theorem lstAt_at : lstAt s (.obj i) = (match s[i]? with
    | some (.lst l) => some (i, l)
    | _ => none) := rfl
theorem trkL_at : trkL s (.obj i) = (match s[i]? with
    | some (.lst l) => some l
    | _ => none) := rfl
theorem truD_atS : truD s (.obj i) = (match s[i]? with
    | some (.lst l) => some (!l.isEmpty)
    | some (.dic kvs) => some (!kvs.isEmpty)
    | _ => none) := rfl
theorem dLen_at : dLen (.obj i) s = ofO s ((match s[i]? with
    | some (.lst l) => some l.length
    | some (.dic kvs) => some kvs.length
    | some (.dit kvs) => some kvs.length
    | _ => none).map fun (n : Nat) => .int n) := by
  unfold dLen lenD
  rfl
theorem dIx_at {k : Int} : dIx (.obj i) (.int k) s = ofO s ((asQ s (.obj i)).bind fun l => atI l k) := rfl
theorem isDic_at : isDic s (.obj i) = (match s[i]? with
    | some (.dic _) => true
    | some (.dit _) => true
    | some (.dicL _) => true
    | some (.ditL _) => true
    | _ => false) := by unfold isDic; rfl
theorem setFD_at {k : Nat} {d y : Dt} : setFD s c k d y = (insD s c d).bind fun p => if k ≤ p.2.length then some (s.set p.1 (.ins c (putI k y p.2))) else none := rfl
end
theorem nc_lit (n : Nat) : ((no_index (OfNat.ofNat n) : Nat) : Int) = OfNat.ofNat n := rfl
example : ((4 : Nat) : Int) = 4 := by simp only [nc_lit]
theorem ofS_beq (a b : String) : (Str.ofString a == Str.ofString b) = (a == b) := by
  rw [Bool.eq_iff_iff, beq_iff_eq, beq_iff_eq]
  constructor
  · intro h
    rw [Str.ofString_eq_toList, Str.ofString_eq_toList] at h
    have h2 : a.toList.map Char.toNat = b.toList.map Char.toNat := by
      have := congrArg (fun x : Str => x.cps.toList) h
      simpa using this
    have h3 : a.toList = b.toList := List.map_inj_right (fun x y e => Char.toNat_inj.mp e) |>.mp h2
    exact String.toList_injective h3
  · intro h; rw [h]
theorem dIn_tints {s : Sto} {x : Int} {a : List Int} : dIn (.int x) (.tup (a.map .int)) s = .ok (.bl (a.contains x)) s := by
  have hf : (a.map Dt.int).all flatD = true := by simp [flatD]
  have he : ((a.map Dt.int).any fun e => feq e (.int x)) = a.contains x := by
    rw [List.any_map, Bool.eq_iff_iff, List.any_eq_true]
    simp [feq]
  simp only [dIn, inB, asQ_tup, hf, he]
  rfl
/-- a text in a tuple of texts -/
theorem dIn_ttxts {s : Sto} {x : Str} {a : List Str} : dIn (.str x) (.tup (a.map .str)) s = .ok (.bl (a.any fun e => e == x)) s := by
  have hf : (a.map Dt.str).all flatD = true := by simp [flatD]
  have he : ((a.map Dt.str).any fun e => feq e (.str x)) = a.any fun e => e == x := by
    rw [List.any_map]
    rfl
  simp only [dIn, inB, asQ_tup, hf, he]
  rfl
theorem dIn_t2 {s : Sto} {x a b : Str} : dIn (.str x) (.tup [.str a, .str b]) s = .ok (.bl (a == x || b == x)) s := by
  have := dIn_ttxts (s := s) (x := x) (a := [a, b])
  simpa using this
theorem dIn_t3 {s : Sto} {x a b c : Str} : dIn (.str x) (.tup [.str a, .str b, .str c]) s = .ok (.bl (a == x || (b == x || c == x))) s := by
  have := dIn_ttxts (s := s) (x := x) (a := [a, b, c])
  simpa using this
/-! ### dicts with written keys, for simp -/
theorem dgetD_at {s : Sto} {i : Nat} {y : Dt} : dgetD s (.obj i) y = (match s[i]? with
    | some (.dic kvs) => (keyD y).map (valA kvs)
    | some (.dicL kvs) => (keyD y).map (valA kvs)
    | some (.dit kvs) => (keysD y).map (valA kvs)
    | some (.ditL kvs) => (keysD y).map (valA kvs)
    | _ => none) := rfl
theorem dputD_at {s : Sto} {i : Nat} {y v : Dt} : dputD s (.obj i) y v = (match s[i]? with
    | some (.dic kvs) => (keyD y).bind fun k => if kvs.length < sizeLine then some (s.set i (.dic (putA kvs k v))) else none
    | some (.dit kvs) => (keysD y).bind fun k => if kvs.length < sizeLine then some (s.set i (.dit (putA kvs k v))) else none
    | _ => none) := rfl
theorem keyD_str {x : Str} : keyD (.str x) = some (Sum.inr x) := rfl
theorem keyD_int {x : Int} : keyD (.int x) = some (Sum.inl x) := rfl
theorem valA_w {α : Type} {a b : String} {v : α} {r : List (Key × α)} : valA ((Sum.inr (Str.ofString a), v) :: r) (Sum.inr (Str.ofString b)) = if (a == b) = true then some v else valA r (Sum.inr (Str.ofString b)) := by
  by_cases h : a = b
  · subst h; simp [valA]
  · have h2 : (Sum.inr (Str.ofString a) : Key) ≠ Sum.inr (Str.ofString b) := fun z => by
      have := ofS_beq a b
      rw [Sum.inr.inj z] at this
      simp at this
      exact h this
    have h3 : (a == b) = false := by simpa using h
    rw [h3]
    simp [valA, h2]
theorem putA_w {α : Type} {a b : String} {v w : α} {r : List (Key × α)} (hn : valA r (Sum.inr (Str.ofString a)) = none) : putA ((Sum.inr (Str.ofString a), v) :: r) (Sum.inr (Str.ofString b)) w = if (a == b) = true then (Sum.inr (Str.ofString a), w) :: r else (Sum.inr (Str.ofString a), v) :: putA r (Sum.inr (Str.ofString b)) w := by
  have hk : ∀ x ∈ r, x.1 ≠ Sum.inr (Str.ofString a) := fun x hx e => by
    unfold valA at hn
    rw [Option.map_eq_none_iff, List.find?_eq_none] at hn
    exact hn x hx (by simpa using e)
  by_cases h : a = b
  · subst h
    have e2 : r.map (fun kv => if kv.1 = Sum.inr (Str.ofString a) then (kv.1, w) else kv) = r := by
      conv => rhs; rw [← List.map_id r]
      apply List.map_congr_left
      intro x hx
      rw [if_neg (hk x hx)]
      rfl
    simp only [putA, List.any_cons, decide_true, Bool.true_or, if_true, List.map_cons, e2, beq_self_eq_true]
  · have h2 : (Sum.inr (Str.ofString a) : Key) ≠ Sum.inr (Str.ofString b) := fun z => by
      have := ofS_beq a b
      rw [Sum.inr.inj z] at this
      simp at this
      exact h this
    have h3 : (a == b) = false := by simpa using h
    rw [h3]
    unfold putA
    simp only [List.any_cons, h2, decide_false, Bool.false_or, List.map_cons, if_false, Bool.false_eq_true]
    split <;> rfl
theorem putA_nilw {α : Type} {k : Key} {w : α} : putA ([] : List (Key × α)) k w = [(k, w)] := rfl
theorem sz_1 : (1 < sizeLine) = True := by rw [sizeLine_eq]; decide
theorem sz_2 : (2 < sizeLine) = True := by rw [sizeLine_eq]; decide
theorem sz_3 : (3 < sizeLine) = True := by rw [sizeLine_eq]; decide
theorem sz_4 : (4 < sizeLine) = True := by rw [sizeLine_eq]; decide
theorem sz_5 : (5 < sizeLine) = True := by rw [sizeLine_eq]; decide
theorem sz_6 : (6 < sizeLine) = True := by rw [sizeLine_eq]; decide
theorem sz_7 : (7 < sizeLine) = True := by rw [sizeLine_eq]; decide
theorem sz_8 : (8 < sizeLine) = True := by rw [sizeLine_eq]; decide
theorem sz_9 : (9 < sizeLine) = True := by rw [sizeLine_eq]; decide
theorem szl {n : Nat} (h : n < 1000000) : n < sizeLine := by rw [sizeLine_eq]; omega
theorem szs {n : Nat} (h : n ≤ 1000000) : n ≤ sizeLine := by rw [sizeLine_eq]; omega
theorem dDget_def {x y : Dt} {s : Sto} : dDget x y s = (match dgetD s x y with
  | some (some d) => .ok d s
  | _ => .bad) := rfl
/-! ### runs by steps -/
def WO {α : Type} (o : Out α) (Q : α → Sto → Prop) (X : Nat → Sto → Prop) : Prop := match o with
  | .ok d s => Q d s
  | .exc c s => X c s
  | .bad => False
structure Ks where
  nx : En → Sto → Prop
  rt : Dt → Sto → Prop
  bk : En → Sto → Prop
  ct : En → Sto → Prop
  ex : Nat → En → Sto → Prop
def KR (K : Ks) : Res → Prop
  | .fl (.nx e) s => K.nx e s
  | .fl (.rt d) s => K.rt d s
  | .fl (.bk e) s => K.bk e s
  | .fl (.ct e) s => K.ct e s
  | .exc c e s => K.ex c e s
  | .bad => False
def WS (f : Sx) (K : Ks) (env : En) (s : Sto) : Prop := KR K (f env s)
def WE (f : Ex) (env : En) (s : Sto) (Q : Dt → Sto → Prop) (X : Nat → Sto → Prop) : Prop := WO (f env s) Q X
def WT (f : Tx) (env : En) (s : Sto) (Q : Bool → Sto → Prop) (X : Nat → Sto → Prop) : Prop := WO (f env s) Q X
def noX : Nat → Sto → Prop := fun _ _ => False
theorem wo_iff {α : Type} {o : Out α} {Q : α → Sto → Prop} (h : WO o Q noX) : ∃ d s, o = .ok d s ∧ Q d s := by
  cases o with
  | ok d s => exact ⟨d, s, rfl, h⟩
  | exc c s => exact h.elim
  | bad => exact h.elim
theorem wo_of {α : Type} {o : Out α} {Q : α → Sto → Prop} {X : Nat → Sto → Prop} {d : α} {s : Sto} (e : o = .ok d s) (h : Q d s) : WO o Q X := by rw [e]; exact h
theorem wo_ok {α : Type} {Q : α → Sto → Prop} {X : Nat → Sto → Prop} {d : α} {s : Sto} (h : Q d s) : WO (.ok d s) Q X := h
theorem wo_exc {α : Type} {o : Out α} {Q : α → Sto → Prop} {X : Nat → Sto → Prop} {c : Nat} {s : Sto} (e : o = .exc c s) (h : X c s) : WO o Q X := by rw [e]; exact h
theorem wo_mono {α : Type} {o : Out α} {Q Q' : α → Sto → Prop} {X X' : Nat → Sto → Prop} (h : WO o Q X) (hq : ∀ d s, Q d s → Q' d s) (hx : ∀ c s, X c s → X' c s) : WO o Q' X' := by
  cases o with
  | ok d s => exact hq _ _ h
  | exc c s => exact hx _ _ h
  | bad => exact h.elim
section
variable {f g : Sx} {K : Ks} {env e : En} {s s1 : Sto} {d : Dt} {fe : Ex} {ft : Tx} {Q : Dt → Sto → Prop} {X : Nat → Sto → Prop}
theorem ws_seq (h : WS f ⟨fun e s => WS g K e s, K.rt, K.bk, K.ct, K.ex⟩ env s) : WS (sSeq f g) K env s := by
  unfold WS at h ⊢
  simp only [sSeq]
  cases e : f env s with
  | fl fl s' =>
    rw [e] at h
    cases fl <;> exact h
  | exc c e' s' => rw [e] at h; exact h
  | bad => rw [e] at h; exact h
theorem ws_step (h : f env s = .fl (.nx e) s1) (k : WS g K e s1) : WS (sSeq f g) K env s := by
  unfold WS at k ⊢
  simp only [sSeq, h]
  exact k
theorem ws_out (h : f env s = .fl (.rt d) s1) (k : K.rt d s1) : WS (sSeq f g) K env s := by
  unfold WS
  simp only [sSeq, h]
  exact k
theorem ws_nx (h : f env s = .fl (.nx e) s1) (k : K.nx e s1) : WS f K env s := by unfold WS; rw [h]; exact k
theorem ws_rt (h : f env s = .fl (.rt d) s1) (k : K.rt d s1) : WS f K env s := by unfold WS; rw [h]; exact k
theorem ws_bk (h : f env s = .fl (.bk e) s1) (k : K.bk e s1) : WS f K env s := by unfold WS; rw [h]; exact k
theorem ws_ct (h : f env s = .fl (.ct e) s1) (k : K.ct e s1) : WS f K env s := by unfold WS; rw [h]; exact k
theorem ws_ex {c : Nat} (h : f env s = .exc c e s1) (k : K.ex c e s1) : WS f K env s := by unfold WS; rw [h]; exact k
theorem ws_mono {K' : Ks} (h : WS f K env s) (h1 : ∀ e s, K.nx e s → K'.nx e s) (h2 : ∀ e s, K.rt e s → K'.rt e s) (h3 : ∀ e s, K.bk e s → K'.bk e s) (h4 : ∀ e s, K.ct e s → K'.ct e s) (h5 : ∀ c e s, K.ex c e s → K'.ex c e s) : WS f K' env s := by
  unfold WS at h ⊢
  cases e : f env s with
  | fl fl s' =>
    rw [e] at h
    cases fl
    · exact h1 _ _ h
    · exact h2 _ _ h
    · exact h3 _ _ h
    · exact h4 _ _ h
  | exc c e' s' => rw [e] at h; exact h5 _ _ _ h
  | bad => rw [e] at h; exact h
/-- a def's run -/
theorem wf_fn {n : Nat} {ds : List Dt} (h : WS f ⟨fun _ s => Q .non s, Q, fun _ _ => False, fun _ _ => False, fun c _ s => X c s⟩ (ds.map some ++ List.replicate (n - ds.length) none) s) : WO (fnOf n f ds s) Q X := by
  unfold WS at h
  unfold fnOf
  cases e : f (ds.map some ++ List.replicate (n - ds.length) none) s with
  | fl fl s' =>
    rw [e] at h
    cases fl
    · exact h
    · exact h
    · exact h.elim
    · exact h.elim
  | exc c e' s' => rw [e] at h; exact h
  | bad => rw [e] at h; exact h
/-! expressions -/
theorem we_ok (h : fe env s = .ok d s1) (k : Q d s1) : WE fe env s Q X := by unfold WE; rw [h]; exact k
theorem wt_ok {b : Bool} {Q : Bool → Sto → Prop} (h : ft env s = .ok b s1) (k : Q b s1) : WT ft env s Q X := by unfold WT; rw [h]; exact k
theorem wo_bnd {α β : Type} {m : Sto → Out α} {k : α → Sto → Out β} {Q : β → Sto → Prop} (h : WO (m s) (fun a s' => WO (k a s') Q X) X) : WO (bnd m k s) Q X := by
  unfold bnd
  cases e : m s with
  | ok a s' => rw [e] at h; exact h
  | exc c s' => rw [e] at h; exact h
  | bad => rw [e] at h; exact h
theorem we_un {op : Dt → Sto → Out Dt} (h : WE fe env s (fun d s' => WO (op d s') Q X) X) : WE (eUn op fe) env s Q X := wo_bnd h
theorem we_op {op : Dt → Dt → Sto → Out Dt} {fb : Ex} (h : WE fe env s (fun x s' => WE fb env s' (fun y s' => WO (op x y s') Q X) X) X) : WE (eOp op fe fb) env s Q X := wo_bnd (wo_mono h (fun _ _ k => wo_bnd k) fun _ _ k => k)
theorem we_and {fb : Ex} (h : WE fe env s (fun d s' => match truD s' d with | some true => WE fb env s' Q X | some false => Q d s' | none => False) X) : WE (eAnd fe fb) env s Q X := wo_bnd (wo_mono h (fun d s' k => by
  revert k
  cases truD s' d with
  | none => exact fun k => k
  | some b => cases b <;> exact fun k => k) fun _ _ k => k)
theorem we_if {fa fb : Ex} (h : WT ft env s (fun c s' => if c = true then WE fa env s' Q X else WE fb env s' Q X) X) : WE (eIf ft fa fb) env s Q X := wo_bnd (wo_mono h (fun d s' k => by cases d <;> exact k) fun _ _ k => k)
theorem wt_tru {Q : Bool → Sto → Prop} (h : WE fe env s (fun d s' => WO (ofB s' (truD s' d)) Q X) X) : WT (tTru fe) env s Q X := wo_bnd h
theorem wt_bl {Q : Bool → Sto → Prop} (h : WE fe env s (fun d s' => ∃ b, d = .bl b ∧ Q b s') X) : WT (tBl fe) env s Q X := wo_bnd (wo_mono h (fun d s' k => by
  obtain ⟨b, e, k⟩ := k
  subst e
  exact k) fun _ _ k => k)
theorem wt_not {Q : Bool → Sto → Prop} (h : WT ft env s (fun c s' => Q (!c) s') X) : WT (tNot ft) env s Q X := wo_bnd h
theorem wt_and {fu : Tx} {Q : Bool → Sto → Prop} (h : WT ft env s (fun c s' => if c = true then WT fu env s' Q X else Q false s') X) : WT (tAnd ft fu) env s Q X := wo_bnd (wo_mono h (fun d s' k => by cases d <;> exact k) fun _ _ k => k)
theorem wt_or {fu : Tx} {Q : Bool → Sto → Prop} (h : WT ft env s (fun c s' => if c = true then Q true s' else WT fu env s' Q X) X) : WT (tOr ft fu) env s Q X := wo_bnd (wo_mono h (fun d s' k => by cases d <;> exact k) fun _ _ k => k)
/-- several -/
def WA (fs : List Ex) (env : En) (s : Sto) (Q : List Dt → Sto → Prop) (X : Nat → Sto → Prop) : Prop := WO (evs fs env s) Q X
theorem wa_nil {Q : List Dt → Sto → Prop} (h : Q [] s) : WA [] env s Q X := h
theorem wa_cons {fs : List Ex} {Q : List Dt → Sto → Prop} (h : WE fe env s (fun d s' => WA fs env s' (fun ds s'' => Q (d :: ds) s'') X) X) : WA (fe :: fs) env s Q X := by
  unfold WA
  rw [evs_cons]
  exact wo_bnd (wo_mono h (fun d s' k => wo_bnd k) fun _ _ k => k)
theorem wa_ok {fs : List Ex} {ds : List Dt} {Q : List Dt → Sto → Prop} (h : evs fs env s = .ok ds s1) (k : Q ds s1) : WA fs env s Q X := by unfold WA; rw [h]; exact k
theorem we_call {m : Fn} {fs : List Ex} (h : WA fs env s (fun ds s' => WO (m ds s') Q X) X) : WE (eCall m fs) env s Q X := wo_bnd h
theorem we_tup {fs : List Ex} (h : WA fs env s (fun ds s' => Q (.tup ds) s') X) : WE (eTup fs) env s Q X := wo_bnd h
theorem we_lst {nw : List Dt → Sto → Out Dt} {fs : List Ex} (h : WA fs env s (fun ds s' => WO (nw ds s') Q X) X) : WE (eLst nw fs) env s Q X := wo_bnd h
theorem we_meth {c i : Nat} {fs' : List Dt} {m : Fn} {fs : List Ex} (h : fe env s = .ok (.obj i) s1) (hi : s1[i]? = some (.ins c fs')) (k : WA fs env s1 (fun ds s' => WO (m (.obj i :: ds) s') Q X) X) : WE (eMeth c m fe fs) env s Q X := by
  unfold WE
  rw [ev_meth]
  refine wo_bnd ?_
  rw [h]
  show WO (match insD s1 c (.obj i) with | some _ => _ | none => _) Q X
  rw [insD_obj hi]
  exact wo_bnd k
/-- what is known behind it -/
theorem we_mid {f : Ex} (P : Dt → Sto → Prop) (h : WE f env s P noX) (k : ∀ d s, P d s → Q d s) : WE f env s Q X := wo_mono h k fun _ _ h => h.elim
def KN (P : En → Sto → Prop) : Ks := ⟨P, fun _ _ => False, fun _ _ => False, fun _ _ => False, fun _ _ _ => False⟩
theorem ws_mid (P : En → Sto → Prop) (h : WS f (KN P) env s) (k : ∀ e s, P e s → WS g K e s) : WS (sSeq f g) K env s := ws_seq (ws_mono h k (fun _ _ h => h.elim) (fun _ _ h => h.elim) (fun _ _ h => h.elim) fun _ _ _ h => h.elim)
theorem ws_mid0 (P : Sto → Prop) (h : WS f (KN fun e s => e = env ∧ P s) env s) (k : ∀ s, P s → WS g K env s) : WS (sSeq f g) K env s := ws_mid _ h (by rintro e s ⟨rfl, q⟩; exact k s q)
/-! statements -/
theorem ws_asg {tg : Tg} (h : WE fe env s (fun d s' => ∃ e, tg d env s' = some e ∧ K.nx e s') (fun c s' => K.ex c env s')) : WS (sAsg fe tg) K env s := by
  unfold WS WE at *
  rw [ev_asg, sBnd_def]
  cases e : fe env s with
  | ok d s' =>
    rw [e] at h
    obtain ⟨e1, h1, h2⟩ := h
    simp only [h1]
    exact h2
  | exc c s' => rw [e] at h; exact h
  | bad => rw [e] at h; exact h
theorem ws_set {i : Nat} (h : WE fe env s (fun d s' => K.nx (env.set i (some d)) s') (fun c s' => K.ex c env s')) : WS (sAsg fe (gN i)) K env s := ws_asg (wo_mono h (fun _ _ k => ⟨_, rfl, k⟩) fun _ _ k => k)
theorem ws_ret (h : WE fe env s K.rt (fun c s' => K.ex c env s')) : WS (sRet fe) K env s := by
  unfold WS WE at *
  rw [ev_ret, sBnd_def]
  cases e : fe env s with
  | ok d s' => rw [e] at h; exact h
  | exc c s' => rw [e] at h; exact h
  | bad => rw [e] at h; exact h
theorem ws_expr (h : WE fe env s (fun _ s' => K.nx env s') (fun c s' => K.ex c env s')) : WS (sExpr fe) K env s := by
  unfold WS WE at *
  rw [ev_expr, sBnd_def]
  cases e : fe env s with
  | ok d s' => rw [e] at h; exact h
  | exc c s' => rw [e] at h; exact h
  | bad => rw [e] at h; exact h
theorem ws_if (h : WT ft env s (fun c s' => if c = true then WS f K env s' else WS g K env s') (fun c s' => K.ex c env s')) : WS (sIf ft f g) K env s := by
  unfold WS WT at *
  rw [ev_if, sBnd_def]
  cases e : ft env s with
  | ok d s' => rw [e] at h; cases d <;> exact h
  | exc c s' => rw [e] at h; exact h
  | bad => rw [e] at h; exact h
theorem ws_ifT (h : ft env s = .ok true s1) (k : WS f K env s1) : WS (sIf ft f g) K env s := ws_if (wt_ok h k)
theorem ws_ifF (h : ft env s = .ok false s1) (k : WS g K env s1) : WS (sIf ft f g) K env s := ws_if (wt_ok h k)
theorem ws_next (h : K.nx env s) : WS sNext K env s := h
end
theorem ws_dput {fo fi fv : Ex} {K : Ks} {env : En} {s : Sto} (h : WE fv env s (fun v s1 => ∃ x y s2 s3 s4, fo env s1 = .ok x s2 ∧ fi env s2 = .ok y s3 ∧ dputD s3 x y v = some s4 ∧ K.nx env s4) (fun c s' => K.ex c env s')) : WS (sDput fo fi fv) K env s := by
  unfold WS WE at *
  rw [ev_dput, sBnd_def]
  cases e : fv env s with
  | ok d s' =>
    rw [e] at h
    obtain ⟨x, y, s2, s3, s4, h1, h2, h3, h4⟩ := h
    simp only [sBnd_def, h1, h2, h3]
    exact h4
  | exc c s' => rw [e] at h; exact h
  | bad => rw [e] at h; exact h
theorem ws_setF {c i : Nat} {fo fv : Ex} {K : Ks} {env : En} {s : Sto} (h : WE fv env s (fun v s1 => ∃ x s2 s4, fo env s1 = .ok x s2 ∧ setFD s2 c i x v = some s4 ∧ K.nx env s4) (fun c s' => K.ex c env s')) : WS (sSetF c i fo fv) K env s := by
  unfold WS WE at *
  rw [ev_setF, sBnd_def]
  cases e : fv env s with
  | ok d s' =>
    rw [e] at h
    obtain ⟨x, s2, s4, h1, h3, h4⟩ := h
    simp only [sBnd_def, h1, h3]
    exact h4
  | exc c s' => rw [e] at h; exact h
  | bad => rw [e] at h; exact h
/-- the store behind a write -/
theorem ws_put {f : Sx} {K : Ks} {env : En} {s : Sto} {L L1 : List SP} {i : Nat} {m m' : Mo} (o : Own L s) (h : Tk L (At i m) L1) (k : ∀ s', Own (At i m' :: L1) s' → WS f K env s') : WS f K env (s.set i m') := k _ (o.setT h m')
theorem ws_new {f : Sx} {K : Ks} {env : En} {s : Sto} {L : List SP} {m : Mo} (o : Own L s) (k : ∀ s', Own (At s.length m :: L) s' → WS f K env s') : WS f K env (s ++ [m]) := k _ (o.new m)
/-! ### loops -/
def setS : En → List Nat → List (Option Dt) → En
  | env, i :: is, x :: xs => setS (env.set i x) is xs
  | env, _, _ => env
theorem setS_cons {env : En} {i : Nat} {is : List Nat} {x : Option Dt} {xs : List (Option Dt)} : setS env (i :: is) (x :: xs) = setS (env.set i x) is xs := rfl
theorem setS_nil {env : En} {xs : List (Option Dt)} : setS env [] xs = env := by cases xs <;> rfl
theorem len0 {α : Type} {l : List α} (h : l.length = 0) : l = [] := List.length_eq_zero_iff.mp h
theorem len1 {α : Type} {l : List α} (h : l.length = 1) : ∃ a, l = [a] := List.length_eq_one_iff.mp h
theorem len2 {α : Type} {l : List α} (h : l.length = 2) : ∃ a b, l = [a, b] := by
  match l, h with
  | [a, b], _ => exact ⟨a, b, rfl⟩
theorem len3 {α : Type} {l : List α} (h : l.length = 3) : ∃ a b c, l = [a, b, c] := by
  match l, h with
  | [a, b, c], _ => exact ⟨a, b, c, rfl⟩
theorem len4 {α : Type} {l : List α} (h : l.length = 4) : ∃ a b c d, l = [a, b, c, d] := by
  match l, h with
  | [a, b, c, d], _ => exact ⟨a, b, c, d, rfl⟩
theorem len5 {α : Type} {l : List α} (h : l.length = 5) : ∃ a b c d e, l = [a, b, c, d, e] := by
  match l, h with
  | [a, b, c, d, e], _ => exact ⟨a, b, c, d, e, rfl⟩
theorem len6 {α : Type} {l : List α} (h : l.length = 6) : ∃ a b c d e f, l = [a, b, c, d, e, f] := by
  match l, h with
  | [a, b, c, d, e, f], _ => exact ⟨a, b, c, d, e, f, rfl⟩
section
variable {α : Type} {tg : Tg} {body : Sx} {ok : Sto → Prop} {K : Ks} {env0 : En} {s s0 : Sto}
theorem ws_forGo {f : α → Dt} (J : List α → En → Sto → Prop) (all : List α) : ∀ (l pre : List α) (env : En) (s : Sto), all = pre ++ l → J pre env s →
    (∀ pre a post env s, all = pre ++ a :: post → J pre env s → ok s ∧ ∃ env1, tg (f a) env s = some env1 ∧ WS body ⟨J (pre ++ [a]), K.rt, K.nx, J (pre ++ [a]), K.ex⟩ env1 s) → (∀ env s, J all env s → ok s ∧ K.nx env s) →
    KR K (forGo tg body ok (l.map f) env s)
  | [], pre, env, s, ha, hj, hb, hd => by
    rw [List.append_nil] at ha
    subst ha
    obtain ⟨h1, h2⟩ := hd env s hj
    simp only [List.map_nil, forGo, if_pos h1]
    exact h2
  | a :: l, pre, env, s, ha, hj, hb, hd => by
    obtain ⟨h1, env1, h2, h3⟩ := hb pre a l env s ha hj
    simp only [List.map_cons, forGo, if_pos h1, h2]
    unfold WS at h3
    have ih := fun e s' h => ws_forGo J all l (pre ++ [a]) e s' (by rw [ha, List.append_assoc]; rfl) h hb hd
    cases e : body env1 s with
    | fl fl s' =>
      rw [e] at h3
      cases fl
      · exact ih _ _ h3
      · exact h3
      · exact h3
      · exact ih _ _ h3
    | exc c e' s' => rw [e] at h3; exact h3
    | bad => rw [e] at h3; exact h3
theorem ws_for {fi : Is} {f : α → Dt} (is : List Nat) (J : List α → List (Option Dt) → Sto → Prop) {l : List α}
    (hi : fi env0 s = .ok (l.map f, ok) s0) (he : setS env0 is (is.map fun i => (env0[i]?).getD none) = env0) (h0 : J [] (is.map fun i => (env0[i]?).getD none) s0)
    (hb : ∀ pre a post xs s, l = pre ++ a :: post → xs.length = is.length → J pre xs s → ok s ∧ ∃ env1, tg (f a) (setS env0 is xs) s = some env1 ∧ WS body ⟨fun e s' => ∃ ys, ys.length = is.length ∧ e = setS env0 is ys ∧ J (pre ++ [a]) ys s', K.rt, K.nx, fun e s' => ∃ ys, ys.length = is.length ∧ e = setS env0 is ys ∧ J (pre ++ [a]) ys s', K.ex⟩ env1 s)
    (hd : ∀ xs s, xs.length = is.length → J l xs s → ok s ∧ K.nx (setS env0 is xs) s) : WS (sFor fi tg body) K env0 s := by
  unfold WS
  rw [ev_for, sBnd_def, hi]
  refine ws_forGo (fun pre env s => ∃ ys, ys.length = is.length ∧ env = setS env0 is ys ∧ J pre ys s) l l [] env0 s0 rfl ⟨_, by rw [List.length_map], he.symm, h0⟩ ?_ ?_
  · rintro pre a post env s ha ⟨xs, hx, e, hj⟩
    subst e
    exact hb pre a post xs s ha hx hj
  · rintro env s ⟨xs, hx, e, hj⟩
    subst e
    exact hd xs s hx hj
/-- .. over the numbers below n -/
theorem ws_range {fa : Ex} {n : Nat} (is : List Nat) (J : Nat → List (Option Dt) → Sto → Prop)
    (hi : fa env0 s = .ok (.int (n : Int)) s0) (hn : n ≤ 16777216) (he : setS env0 is (is.map fun i => (env0[i]?).getD none) = env0) (h0 : J 0 (is.map fun i => (env0[i]?).getD none) s0)
    (hb : ∀ k xs s, k < n → xs.length = is.length → J k xs s → ∃ env1, tg (.int (k : Int)) (setS env0 is xs) s = some env1 ∧ WS body ⟨fun e s' => ∃ ys, ys.length = is.length ∧ e = setS env0 is ys ∧ J (k + 1) ys s', K.rt, K.nx, fun e s' => ∃ ys, ys.length = is.length ∧ e = setS env0 is ys ∧ J (k + 1) ys s', K.ex⟩ env1 s)
    (hd : ∀ xs s, xs.length = is.length → J n xs s → K.nx (setS env0 is xs) s) : WS (sFor (iRange fa) tg body) K env0 s := by
  have hi2 : (iRange fa) env0 s = .ok ((List.range n).map (fun (k : Nat) => Dt.int (k : Int)), fun _ => True) s0 := by
    rw [ev_iRange, bnd_def, hi]
    have hr : ((n : Int) ≤ 16777216 ∧ -(2 ^ 62) ≤ (n : Int)) := by omega
    simp only [hr, and_self, if_true, Int.toNat_natCast]
  refine ws_for (f := fun (k : Nat) => Dt.int (k : Int)) is (fun pre xs s => pre = List.range pre.length ∧ J pre.length xs s) hi2 he ⟨rfl, h0⟩ ?_ ?_
  · rintro pre a post xs s ha hx ⟨hp, hj⟩
    have hlen := congrArg List.length ha
    rw [List.length_range, List.length_append, List.length_cons] at hlen
    have ea : a = pre.length := by
      have z : (List.range n)[pre.length]? = some a := by rw [ha]; simp
      rw [List.getElem?_range (by omega)] at z
      exact (Option.some.inj z).symm
    subst ea
    obtain ⟨env1, h1, h2⟩ := hb pre.length xs s (by omega) hx hj
    have key : ∀ e s', (∃ ys : List (Option Dt), ys.length = is.length ∧ e = setS env0 is ys ∧ J (pre.length + 1) ys s') → ∃ ys : List (Option Dt), ys.length = is.length ∧ e = setS env0 is ys ∧ (pre ++ [pre.length] = List.range (pre ++ [pre.length]).length ∧ J (pre ++ [pre.length]).length ys s') := by
      rintro e s' ⟨ys, k1, k2, k3⟩
      refine ⟨ys, k1, k2, ?_, by rw [List.length_append]; exact k3⟩
      rw [List.length_append, List.length_singleton, List.range_succ, ← hp]
    exact ⟨trivial, env1, h1, ws_mono h2 key (fun _ _ k => k) (fun _ _ k => k) key fun _ _ _ k => k⟩
  · rintro xs s hx ⟨hp, hj⟩
    rw [List.length_range] at hj
    exact ⟨trivial, hd xs s hx hj⟩
theorem ws_while {t : Tx} {fuel : Nat} (is : List Nat) (J : Nat → List (Option Dt) → Sto → Prop) (n : Nat) (hf : n < fuel) (he : setS env0 is (is.map fun i => (env0[i]?).getD none) = env0) (h0 : J n (is.map fun i => (env0[i]?).getD none) s)
    (hb : ∀ n xs s, xs.length = is.length → J n xs s → WT t (setS env0 is xs) s (fun c s1 => if c = true then WS body ⟨fun e s' => ∃ m ys, m < n ∧ ys.length = is.length ∧ e = setS env0 is ys ∧ J m ys s', K.rt, K.nx, fun e s' => ∃ m ys, m < n ∧ ys.length = is.length ∧ e = setS env0 is ys ∧ J m ys s', K.ex⟩ (setS env0 is xs) s1 else K.nx (setS env0 is xs) s1) (fun c s' => K.ex c (setS env0 is xs) s')) : WS (whGo t body fuel) K env0 s := by
  have go : ∀ (fuel n : Nat) (xs : List (Option Dt)) (s : Sto), n < fuel → xs.length = is.length → J n xs s → WS (whGo t body fuel) K (setS env0 is xs) s := by
    intro fuel
    induction fuel with
    | zero => intro n xs s h; omega
    | succ fuel ih =>
      intro n xs s hn hx hj
      have h := hb n xs s hx hj
      unfold WS
      rw [whGo, sBnd_def]
      unfold WT at h
      cases e : t (setS env0 is xs) s with
      | ok c s1 =>
        rw [e] at h
        cases c with
        | false =>
          have h : K.nx (setS env0 is xs) s1 := h
          exact h
        | true =>
          have h : WS body _ (setS env0 is xs) s1 := h
          unfold WS at h
          show KR K (match body (setS env0 is xs) s1 with
            | .fl (.nx e) s' => whGo t body fuel e s'
            | .fl (.ct e) s' => whGo t body fuel e s'
            | .fl (.bk e) s' => .fl (.nx e) s'
            | .fl (.rt d) s' => .fl (.rt d) s'
            | .exc c e s' => .exc c e s'
            | .bad => .bad)
          cases e2 : body (setS env0 is xs) s1 with
          | fl fl s' =>
            rw [e2] at h
            cases fl
            · obtain ⟨m, ys, k1, k2, k3, k4⟩ := h
              subst k3
              exact ih m ys s' (by omega) k2 k4
            · exact h
            · exact h
            · obtain ⟨m, ys, k1, k2, k3, k4⟩ := h
              subst k3
              exact ih m ys s' (by omega) k2 k4
          | exc c e' s' => rw [e2] at h; exact h
          | bad => rw [e2] at h; exact h
      | exc c s' => rw [e] at h; exact h
      | bad => rw [e] at h; exact h
  have := go fuel n _ s hf (by rw [List.length_map]) h0
  rw [he] at this
  exact this
end
/-! ### comprehensions -/
section
variable {α : Type} {tg : Tg} {ft : Tx} {fe : Ex} {ok : Sto → Prop} {env : En} {s s0 : Sto} {fi : Is} {vs : List Nat} {nw : List Dt → Sto → Out Dt} {Q : Dt → Sto → Prop} {X : Nat → Sto → Prop}
theorem we_lcF {f g : α → Dt} {p : α → Bool} {l : List α} (hi : fi env s = .ok (l.map f, ok) s0) (hok : ok s0) (h : ∀ a ∈ l, ∃ env1, tg (f a) (wipeD env vs) s0 = some env1 ∧ ft env1 s0 = .ok (p a) s0 ∧ (p a = true → fe env1 s0 = .ok (g a) s0)) (k : WO (nw ((l.filter p).map g) s0) Q X) : WE (eLc nw vs fi tg ft fe) env s Q X := by
  unfold WE
  rw [ev_lc, bnd_def, hi]
  show WO (bndN (lcGo tg ft fe ok (l.map f) (wipeD env vs)) nw s0) Q X
  rw [bndN_ok (lc_filter hok h)]
  exact k
theorem we_lcM {f g : α → Dt} {l : List α} (hi : fi env s = .ok (l.map f, ok) s0) (hok : ok s0) (h : ∀ a ∈ l, ∃ env1, tg (f a) (wipeD env vs) s0 = some env1 ∧ ft env1 s0 = .ok true s0 ∧ fe env1 s0 = .ok (g a) s0) (k : WO (nw (l.map g) s0) Q X) : WE (eLc nw vs fi tg ft fe) env s Q X := by
  unfold WE
  rw [ev_lc, bnd_def, hi]
  show WO (bndN (lcGo tg ft fe ok (l.map f) (wipeD env vs)) nw s0) Q X
  rw [bndN_ok (lc_map hok h)]
  exact k
/-- .. where the store changes -/
theorem lc_wp {f : α → Dt} {β : Type} {g : β → Dt} (J : List α → List β → Sto → Prop) (all : List α) (hok : ∀ pre bs s, J pre bs s → ok s) : ∀ (l pre : List α) (bs : List β) (s : Sto), all = pre ++ l → J pre bs s →
    (∀ pre a post bs s, all = pre ++ a :: post → J pre bs s → ∃ env1, tg (f a) env s = some env1 ∧ WE fe env1 s (fun d s' => ∃ b, d = g b ∧ J (pre ++ [a]) (bs ++ [b]) s') noX) →
    ∃ cs s', lcGo tg Pd.tYes fe ok (l.map f) env s = .ok (cs.map g) s' ∧ J all (bs ++ cs) s'
  | [], pre, bs, s, ha, hj, hb => by
    rw [List.append_nil] at ha
    subst ha
    exact ⟨[], s, by simp only [List.map_nil, lcGo, if_pos (hok _ _ _ hj)], by rw [List.append_nil]; exact hj⟩
  | a :: l, pre, bs, s, ha, hj, hb => by
    obtain ⟨env1, h1, h2⟩ := hb pre a l bs s ha hj
    obtain ⟨d, s1, h3, b, h4, h5⟩ := wo_iff h2
    subst h4
    obtain ⟨cs, s2, h6, h7⟩ := lc_wp (f := f) (g := g) J all hok l (pre ++ [a]) (bs ++ [b]) s1 (by rw [ha, List.append_assoc]; rfl) h5 hb
    refine ⟨b :: cs, s2, ?_, by rw [List.append_assoc] at h7; exact h7⟩
    simp only [List.map_cons, lcGo, if_pos (hok _ _ _ hj), h1, bndN, ev_yes, if_true, h3, h6]
theorem we_lcW {f : α → Dt} {β : Type} {g : β → Dt} (J : List α → List β → Sto → Prop) {l : List α} (hi : fi env s = .ok (l.map f, ok) s0) (hok : ∀ pre bs s, J pre bs s → ok s) (h0 : J [] [] s0) (h : ∀ pre a post bs s, l = pre ++ a :: post → J pre bs s → ∃ env1, tg (f a) (wipeD env vs) s = some env1 ∧ WE fe env1 s (fun d s' => ∃ b, d = g b ∧ J (pre ++ [a]) (bs ++ [b]) s') noX) (k : ∀ bs s', J l bs s' → WO (nw (bs.map g) s') Q X) : WE (eLc nw vs fi tg Pd.tYes fe) env s Q X := by
  unfold WE
  rw [ev_lc, bnd_def, hi]
  show WO (bndN (lcGo tg Pd.tYes fe ok (l.map f) (wipeD env vs)) nw s0) Q X
  obtain ⟨cs, s', h1, h2⟩ := lc_wp J l hok l [] [] s0 rfl h0 h
  rw [bndN_ok h1]
  exact k _ _ h2
end
end Pd
namespace Pd
open PySem L2
theorem fnOf_def {n : Nat} {f : Sx} {ds : List Dt} {s : Sto} : fnOf n f ds s = (match f (ds.map some ++ List.replicate (n - ds.length) none) s with
  | .fl (.rt d) s' => .ok d s'
  | .fl (.nx _) s' => .ok .non s'
  | .exc c _ s' => .exc c s'
  | _ => .bad) := rfl
theorem ev0R : type_of% (And.intro @fnOf_def <| And.intro @ev_seq <| And.intro @ev_asg <| And.intro @sBnd_def <| And.intro @ev_op <| And.intro @ev_un <| And.intro @bnd_def <| And.intro @ev_call <| And.intro @evs_cons <| And.intro @evs_nil <| And.intro @ev_var <| And.intro @ev_c <| And.intro @ev_if <| And.intro @ev_next <| And.intro @ev_expr <| And.intro @ev_tru <| And.intro @ev_bl <| And.intro @ev_and <| And.intro @ev_or <| And.intro @ev_not <| And.intro @ev_yes <| And.intro @ev_andE <| And.intro @ev_orE <| And.intro @ev_notE <| And.intro @ev_ifE <| And.intro @ev_chain <| And.intro @ofB_some <| And.intro @ofO_some <| And.intro @ofO_none <| And.intro @truD_non <| And.intro @truD_bl <| And.intro @truD_int <| And.intro @truD_str <| And.intro @truD_tup <| And.intro @truD_lst <| And.intro @truD_lsk <| And.intro @ev_tup <| And.intro @ev_lst <| And.intro @ev_nwF <| And.intro @ev_nwM <| And.intro @ev_meth <| And.intro @ev_make <| And.intro @ev_fld <| And.intro @ev_setF <| And.intro @ev_bm1 <| And.intro @asQ_tup <| And.intro @asQ_lst <| And.intro @asQ_lsk <| And.intro @asL_lst <| And.intro @asL_lsk <| And.intro @dLen_tup <| And.intro @dLen_lst <| And.intro @dLen_lsk <| And.intro @dLen_str <| And.intro @dIx_tup <| And.intro @dIx_lst <| And.intro @dIx_lsk <| And.intro @dIx_str <| And.intro @dAdd_int <| And.intro @dNeg_int <| And.intro @isN_def <| And.intro @notN_def <| And.intro @isNon_non <| And.intro @isNon_int <| And.intro @isNon_bl <| And.intro @isNon_str <| And.intro @isNon_tup <| And.intro @isNon_lst <| And.intro @isNon_obj <| And.intro @isNon_exc <| And.intro @dEq_int <| And.intro @dNe_int <| And.intro @dEq_str <| And.intro @dNe_str <| And.intro @dEq_bl <| And.intro @atI_zero <| And.intro @atI_one <| And.intro @atI_2 <| And.intro @atI_3 <| And.intro @atI_4 <| And.intro @atI_5 <| And.intro @atI_6 <| And.intro @atI_7 <| And.intro @atI_8 <| And.intro @atI_9 <| And.intro @atI_10 <| And.intro @atI_11 <| And.intro @atI_12 <| And.intro @atI_m1 <| And.intro @ev_gT <| And.intro @setAll_nil <| And.intro @setAll_cons <| And.intro @iOp_int <| And.intro @ev_gN <| And.intro @ev_ret <| And.intro @List.map_cons.{0, 0} <| And.intro @List.map_nil.{0, 0} <| And.intro @List.length_cons.{0} <| And.intro @List.length_nil.{0} <| And.intro @rep_zero <| And.intro @rep_succ <| And.intro @List.cons_append.{0} <| And.intro @List.nil_append.{0} <| And.intro @List.getElem?_cons_zero.{0} <| And.intro @List.getElem?_cons_succ.{0} <| And.intro @List.set_cons_zero.{0} <| And.intro @List.set_cons_succ.{0} <| And.intro @Nat.sub_self <| And.intro @Option.map_some.{0, 0} <| And.intro @Option.bind_some.{0, 0} <| And.intro @if_true.{1} <| And.intro @Bool.not_true <| And.intro @Bool.not_false <| And.intro @Bool.false_eq_true <| And.intro @if_false.{1} <| @decide_true) := And.intro @fnOf_def <| And.intro @ev_seq <| And.intro @ev_asg <| And.intro @sBnd_def <| And.intro @ev_op <| And.intro @ev_un <| And.intro @bnd_def <| And.intro @ev_call <| And.intro @evs_cons <| And.intro @evs_nil <| And.intro @ev_var <| And.intro @ev_c <| And.intro @ev_if <| And.intro @ev_next <| And.intro @ev_expr <| And.intro @ev_tru <| And.intro @ev_bl <| And.intro @ev_and <| And.intro @ev_or <| And.intro @ev_not <| And.intro @ev_yes <| And.intro @ev_andE <| And.intro @ev_orE <| And.intro @ev_notE <| And.intro @ev_ifE <| And.intro @ev_chain <| And.intro @ofB_some <| And.intro @ofO_some <| And.intro @ofO_none <| And.intro @truD_non <| And.intro @truD_bl <| And.intro @truD_int <| And.intro @truD_str <| And.intro @truD_tup <| And.intro @truD_lst <| And.intro @truD_lsk <| And.intro @ev_tup <| And.intro @ev_lst <| And.intro @ev_nwF <| And.intro @ev_nwM <| And.intro @ev_meth <| And.intro @ev_make <| And.intro @ev_fld <| And.intro @ev_setF <| And.intro @ev_bm1 <| And.intro @asQ_tup <| And.intro @asQ_lst <| And.intro @asQ_lsk <| And.intro @asL_lst <| And.intro @asL_lsk <| And.intro @dLen_tup <| And.intro @dLen_lst <| And.intro @dLen_lsk <| And.intro @dLen_str <| And.intro @dIx_tup <| And.intro @dIx_lst <| And.intro @dIx_lsk <| And.intro @dIx_str <| And.intro @dAdd_int <| And.intro @dNeg_int <| And.intro @isN_def <| And.intro @notN_def <| And.intro @isNon_non <| And.intro @isNon_int <| And.intro @isNon_bl <| And.intro @isNon_str <| And.intro @isNon_tup <| And.intro @isNon_lst <| And.intro @isNon_obj <| And.intro @isNon_exc <| And.intro @dEq_int <| And.intro @dNe_int <| And.intro @dEq_str <| And.intro @dNe_str <| And.intro @dEq_bl <| And.intro @atI_zero <| And.intro @atI_one <| And.intro @atI_2 <| And.intro @atI_3 <| And.intro @atI_4 <| And.intro @atI_5 <| And.intro @atI_6 <| And.intro @atI_7 <| And.intro @atI_8 <| And.intro @atI_9 <| And.intro @atI_10 <| And.intro @atI_11 <| And.intro @atI_12 <| And.intro @atI_m1 <| And.intro @ev_gT <| And.intro @setAll_nil <| And.intro @setAll_cons <| And.intro @iOp_int <| And.intro @ev_gN <| And.intro @ev_ret <| And.intro @List.map_cons.{0, 0} <| And.intro @List.map_nil.{0, 0} <| And.intro @List.length_cons.{0} <| And.intro @List.length_nil.{0} <| And.intro @rep_zero <| And.intro @rep_succ <| And.intro @List.cons_append.{0} <| And.intro @List.nil_append.{0} <| And.intro @List.getElem?_cons_zero.{0} <| And.intro @List.getElem?_cons_succ.{0} <| And.intro @List.set_cons_zero.{0} <| And.intro @List.set_cons_succ.{0} <| And.intro @Nat.sub_self <| And.intro @Option.map_some.{0, 0} <| And.intro @Option.bind_some.{0, 0} <| And.intro @if_true.{1} <| And.intro @Bool.not_true <| And.intro @Bool.not_false <| And.intro @Bool.false_eq_true <| And.intro @if_false.{1} <| @decide_true
theorem evR : type_of% (And.intro @fnOf_def <| And.intro @ev_seq <| And.intro @ev_asg <| And.intro @sBnd_def <| And.intro @ev_op <| And.intro @ev_un <| And.intro @bnd_def <| And.intro @ev_call <| And.intro @evs_cons <| And.intro @evs_nil <| And.intro @ev_var <| And.intro @ev_c <| And.intro @ev_if <| And.intro @ev_next <| And.intro @ev_expr <| And.intro @ev_tru <| And.intro @ev_bl <| And.intro @ev_and <| And.intro @ev_or <| And.intro @ev_not <| And.intro @ev_yes <| And.intro @ev_andE <| And.intro @ev_orE <| And.intro @ev_notE <| And.intro @ev_ifE <| And.intro @ev_chain <| And.intro @ofB_some <| And.intro @ofO_some <| And.intro @ofO_none <| And.intro @truD_non <| And.intro @truD_bl <| And.intro @truD_int <| And.intro @truD_str <| And.intro @truD_tup <| And.intro @truD_lst <| And.intro @truD_lsk <| And.intro @ev_tup <| And.intro @ev_lst <| And.intro @ev_nwF <| And.intro @ev_nwM <| And.intro @ev_meth <| And.intro @ev_make <| And.intro @ev_fld <| And.intro @ev_setF <| And.intro @ev_bm1 <| And.intro @asQ_tup <| And.intro @asQ_lst <| And.intro @asQ_lsk <| And.intro @asL_lst <| And.intro @asL_lsk <| And.intro @dLen_tup <| And.intro @dLen_lst <| And.intro @dLen_lsk <| And.intro @dLen_str <| And.intro @dIx_tup <| And.intro @dIx_lst <| And.intro @dIx_lsk <| And.intro @dIx_str <| And.intro @dAdd_int <| And.intro @dNeg_int <| And.intro @isN_def <| And.intro @notN_def <| And.intro @isNon_non <| And.intro @isNon_int <| And.intro @isNon_bl <| And.intro @isNon_str <| And.intro @isNon_tup <| And.intro @isNon_lst <| And.intro @isNon_obj <| And.intro @isNon_exc <| And.intro @dEq_int <| And.intro @dNe_int <| And.intro @dEq_str <| And.intro @dNe_str <| And.intro @dEq_bl <| And.intro @atI_zero <| And.intro @atI_one <| And.intro @atI_2 <| And.intro @atI_3 <| And.intro @atI_4 <| And.intro @atI_5 <| And.intro @atI_6 <| And.intro @atI_7 <| And.intro @atI_8 <| And.intro @atI_9 <| And.intro @atI_10 <| And.intro @atI_11 <| And.intro @atI_12 <| And.intro @atI_m1 <| And.intro @ev_gT <| And.intro @setAll_nil <| And.intro @setAll_cons <| And.intro @iOp_int <| And.intro @ev_gN <| And.intro @ev_ret <| And.intro @List.map_cons.{0, 0} <| And.intro @List.map_nil.{0, 0} <| And.intro @List.length_cons.{0} <| And.intro @List.length_nil.{0} <| And.intro @rep_zero <| And.intro @rep_succ <| And.intro @List.cons_append.{0} <| And.intro @List.nil_append.{0} <| And.intro @List.getElem?_cons_zero.{0} <| And.intro @List.getElem?_cons_succ.{0} <| And.intro @List.set_cons_zero.{0} <| And.intro @List.set_cons_succ.{0} <| And.intro @Nat.sub_self <| And.intro @Option.map_some.{0, 0} <| And.intro @Option.bind_some.{0, 0} <| And.intro @if_true.{1} <| And.intro @Bool.not_true <| And.intro @Bool.not_false <| And.intro @Bool.false_eq_true <| And.intro @if_false.{1} <| And.intro @decide_true <| And.intro @decide_false <| And.intro @beq_self_eq_true.{0} <| And.intro @eq_self.{1} <| And.intro @not_true_eq_false <| And.intro @not_false_eq_true <| And.intro @true_and <| And.intro @and_true <| And.intro @true_or <| And.intro @or_true <| And.intro @false_or <| And.intro @or_false <| And.intro @and_false <| And.intro @false_and <| And.intro @decide_eq_true_eq <| And.intro @Bool.true_and <| And.intro @Bool.and_true <| And.intro @Bool.false_and <| And.intro @Bool.and_false <| And.intro @Bool.true_or <| And.intro @Bool.or_true <| And.intro @Bool.false_or <| @Bool.or_false) := And.intro @fnOf_def <| And.intro @ev_seq <| And.intro @ev_asg <| And.intro @sBnd_def <| And.intro @ev_op <| And.intro @ev_un <| And.intro @bnd_def <| And.intro @ev_call <| And.intro @evs_cons <| And.intro @evs_nil <| And.intro @ev_var <| And.intro @ev_c <| And.intro @ev_if <| And.intro @ev_next <| And.intro @ev_expr <| And.intro @ev_tru <| And.intro @ev_bl <| And.intro @ev_and <| And.intro @ev_or <| And.intro @ev_not <| And.intro @ev_yes <| And.intro @ev_andE <| And.intro @ev_orE <| And.intro @ev_notE <| And.intro @ev_ifE <| And.intro @ev_chain <| And.intro @ofB_some <| And.intro @ofO_some <| And.intro @ofO_none <| And.intro @truD_non <| And.intro @truD_bl <| And.intro @truD_int <| And.intro @truD_str <| And.intro @truD_tup <| And.intro @truD_lst <| And.intro @truD_lsk <| And.intro @ev_tup <| And.intro @ev_lst <| And.intro @ev_nwF <| And.intro @ev_nwM <| And.intro @ev_meth <| And.intro @ev_make <| And.intro @ev_fld <| And.intro @ev_setF <| And.intro @ev_bm1 <| And.intro @asQ_tup <| And.intro @asQ_lst <| And.intro @asQ_lsk <| And.intro @asL_lst <| And.intro @asL_lsk <| And.intro @dLen_tup <| And.intro @dLen_lst <| And.intro @dLen_lsk <| And.intro @dLen_str <| And.intro @dIx_tup <| And.intro @dIx_lst <| And.intro @dIx_lsk <| And.intro @dIx_str <| And.intro @dAdd_int <| And.intro @dNeg_int <| And.intro @isN_def <| And.intro @notN_def <| And.intro @isNon_non <| And.intro @isNon_int <| And.intro @isNon_bl <| And.intro @isNon_str <| And.intro @isNon_tup <| And.intro @isNon_lst <| And.intro @isNon_obj <| And.intro @isNon_exc <| And.intro @dEq_int <| And.intro @dNe_int <| And.intro @dEq_str <| And.intro @dNe_str <| And.intro @dEq_bl <| And.intro @atI_zero <| And.intro @atI_one <| And.intro @atI_2 <| And.intro @atI_3 <| And.intro @atI_4 <| And.intro @atI_5 <| And.intro @atI_6 <| And.intro @atI_7 <| And.intro @atI_8 <| And.intro @atI_9 <| And.intro @atI_10 <| And.intro @atI_11 <| And.intro @atI_12 <| And.intro @atI_m1 <| And.intro @ev_gT <| And.intro @setAll_nil <| And.intro @setAll_cons <| And.intro @iOp_int <| And.intro @ev_gN <| And.intro @ev_ret <| And.intro @List.map_cons.{0, 0} <| And.intro @List.map_nil.{0, 0} <| And.intro @List.length_cons.{0} <| And.intro @List.length_nil.{0} <| And.intro @rep_zero <| And.intro @rep_succ <| And.intro @List.cons_append.{0} <| And.intro @List.nil_append.{0} <| And.intro @List.getElem?_cons_zero.{0} <| And.intro @List.getElem?_cons_succ.{0} <| And.intro @List.set_cons_zero.{0} <| And.intro @List.set_cons_succ.{0} <| And.intro @Nat.sub_self <| And.intro @Option.map_some.{0, 0} <| And.intro @Option.bind_some.{0, 0} <| And.intro @if_true.{1} <| And.intro @Bool.not_true <| And.intro @Bool.not_false <| And.intro @Bool.false_eq_true <| And.intro @if_false.{1} <| And.intro @decide_true <| And.intro @decide_false <| And.intro @beq_self_eq_true.{0} <| And.intro @eq_self.{1} <| And.intro @not_true_eq_false <| And.intro @not_false_eq_true <| And.intro @true_and <| And.intro @and_true <| And.intro @true_or <| And.intro @or_true <| And.intro @false_or <| And.intro @or_false <| And.intro @and_false <| And.intro @false_and <| And.intro @decide_eq_true_eq <| And.intro @Bool.true_and <| And.intro @Bool.and_true <| And.intro @Bool.false_and <| And.intro @Bool.and_false <| And.intro @Bool.true_or <| And.intro @Bool.or_true <| And.intro @Bool.false_or <| @Bool.or_false
theorem runR : type_of% (And.intro @fnOf_def <| And.intro @ev_seq <| And.intro @ev_asg <| And.intro @sBnd_def <| And.intro @ev_op <| And.intro @ev_un <| And.intro @bnd_def <| And.intro @ev_call <| And.intro @evs_cons <| And.intro @evs_nil <| And.intro @ev_var <| And.intro @ev_c <| And.intro @ev_if <| And.intro @ev_next <| And.intro @ev_expr <| And.intro @ev_tru <| And.intro @ev_bl <| And.intro @ev_and <| And.intro @ev_or <| And.intro @ev_not <| And.intro @ev_yes <| And.intro @ev_andE <| And.intro @ev_orE <| And.intro @ev_notE <| And.intro @ev_ifE <| And.intro @ev_chain <| And.intro @ofB_some <| And.intro @ofO_some <| And.intro @ofO_none <| And.intro @truD_non <| And.intro @truD_bl <| And.intro @truD_int <| And.intro @truD_str <| And.intro @truD_tup <| And.intro @truD_lst <| And.intro @truD_lsk <| And.intro @ev_tup <| And.intro @ev_lst <| And.intro @ev_nwF <| And.intro @ev_nwM <| And.intro @ev_meth <| And.intro @ev_make <| And.intro @ev_fld <| And.intro @ev_setF <| And.intro @ev_bm1 <| And.intro @asQ_tup <| And.intro @asQ_lst <| And.intro @asQ_lsk <| And.intro @asL_lst <| And.intro @asL_lsk <| And.intro @dLen_tup <| And.intro @dLen_lst <| And.intro @dLen_lsk <| And.intro @dLen_str <| And.intro @dIx_tup <| And.intro @dIx_lst <| And.intro @dIx_lsk <| And.intro @dIx_str <| And.intro @dAdd_int <| And.intro @dNeg_int <| And.intro @isN_def <| And.intro @notN_def <| And.intro @isNon_non <| And.intro @isNon_int <| And.intro @isNon_bl <| And.intro @isNon_str <| And.intro @isNon_tup <| And.intro @isNon_lst <| And.intro @isNon_obj <| And.intro @isNon_exc <| And.intro @dEq_int <| And.intro @dNe_int <| And.intro @dEq_str <| And.intro @dNe_str <| And.intro @dEq_bl <| And.intro @atI_zero <| And.intro @atI_one <| And.intro @atI_2 <| And.intro @atI_3 <| And.intro @atI_4 <| And.intro @atI_5 <| And.intro @atI_6 <| And.intro @atI_7 <| And.intro @atI_8 <| And.intro @atI_9 <| And.intro @atI_10 <| And.intro @atI_11 <| And.intro @atI_12 <| And.intro @atI_m1 <| And.intro @ev_gT <| And.intro @setAll_nil <| And.intro @setAll_cons <| And.intro @iOp_int <| And.intro @ev_gN <| And.intro @ev_ret <| And.intro @List.map_cons.{0, 0} <| And.intro @List.map_nil.{0, 0} <| And.intro @List.length_cons.{0} <| And.intro @List.length_nil.{0} <| And.intro @rep_zero <| And.intro @rep_succ <| And.intro @List.cons_append.{0} <| And.intro @List.nil_append.{0} <| And.intro @List.getElem?_cons_zero.{0} <| And.intro @List.getElem?_cons_succ.{0} <| And.intro @List.set_cons_zero.{0} <| And.intro @List.set_cons_succ.{0} <| And.intro @Nat.sub_self <| And.intro @Option.map_some.{0, 0} <| And.intro @Option.bind_some.{0, 0} <| And.intro @if_true.{1} <| And.intro @Bool.not_true <| And.intro @Bool.not_false <| And.intro @Bool.false_eq_true <| And.intro @if_false.{1} <| And.intro @decide_true <| And.intro @decide_false <| And.intro @beq_self_eq_true.{0} <| And.intro @eq_self.{1} <| And.intro @not_true_eq_false <| And.intro @not_false_eq_true <| And.intro @true_and <| And.intro @and_true <| And.intro @true_or <| And.intro @or_true <| And.intro @false_or <| And.intro @or_false <| And.intro @and_false <| And.intro @false_and <| And.intro @decide_eq_true_eq <| And.intro @Bool.true_and <| And.intro @Bool.and_true <| And.intro @Bool.false_and <| And.intro @Bool.and_false <| And.intro @Bool.true_or <| And.intro @Bool.or_true <| And.intro @Bool.false_or <| And.intro @Bool.or_false <| And.intro @insD_at <| And.intro @isLst_at <| And.intro @asL_at <| And.intro @asQ_at <| And.intro @lstAt_at <| And.intro @trkL_at <| And.intro @truD_atS <| And.intro @dLen_at <| And.intro @dIx_at <| And.intro @isDic_at <| And.intro @setFD_at <| And.intro @isStr_str <| And.intro @isLst_lst <| And.intro @Option.isSome_some.{0} <| And.intro @Option.isSome_none.{0} <| And.intro @Option.isSome_map.{0, 0} <| And.intro @ev_for <| And.intro @ev_lc <| And.intro @ev_iSeq <| And.intro @ev_iRange <| And.intro @ev_sl <| And.intro @evp_none <| And.intro @evp_some <| And.intro @dSl_tup <| And.intro @dSl_lst <| And.intro @wipeD_nil <| And.intro @wipeD_cons <| And.intro @ev_tryH <| And.intro @ev_setI <| And.intro @ev_raise <| And.intro @ev_dput <| And.intro @ev_dnewK <| And.intro @ev_dnewT <| And.intro @setS_cons <| And.intro @setS_nil <| And.intro @mkS_beq <| And.intro @mkS_len <| And.intro @dSplit_mk <| And.intro @signs_mk <| And.intro @List.isEmpty_nil.{0} <| And.intro @List.isEmpty_cons.{0} <| And.intro @List.length_map.{0, 0} <| And.intro @ofS_beq <| And.intro @dIn_t2 <| And.intro @dIn_t3 <| And.intro @dDget_def <| And.intro @dgetD_at <| And.intro @dputD_at <| And.intro @keyD_str <| And.intro @keyD_int <| And.intro @valA_w <| And.intro @valA_nil <| And.intro @putA_w <| And.intro @putA_nilw <| And.intro @sz_1 <| And.intro @sz_2 <| And.intro @sz_3 <| And.intro @sz_4 <| And.intro @sz_5 <| And.intro @sz_6 <| And.intro @sz_7 <| And.intro @sz_8 <| And.intro @sz_9 <| And.intro @nc_lit <| And.intro @Int.natCast_one <| @Int.natCast_zero) := And.intro @fnOf_def <| And.intro @ev_seq <| And.intro @ev_asg <| And.intro @sBnd_def <| And.intro @ev_op <| And.intro @ev_un <| And.intro @bnd_def <| And.intro @ev_call <| And.intro @evs_cons <| And.intro @evs_nil <| And.intro @ev_var <| And.intro @ev_c <| And.intro @ev_if <| And.intro @ev_next <| And.intro @ev_expr <| And.intro @ev_tru <| And.intro @ev_bl <| And.intro @ev_and <| And.intro @ev_or <| And.intro @ev_not <| And.intro @ev_yes <| And.intro @ev_andE <| And.intro @ev_orE <| And.intro @ev_notE <| And.intro @ev_ifE <| And.intro @ev_chain <| And.intro @ofB_some <| And.intro @ofO_some <| And.intro @ofO_none <| And.intro @truD_non <| And.intro @truD_bl <| And.intro @truD_int <| And.intro @truD_str <| And.intro @truD_tup <| And.intro @truD_lst <| And.intro @truD_lsk <| And.intro @ev_tup <| And.intro @ev_lst <| And.intro @ev_nwF <| And.intro @ev_nwM <| And.intro @ev_meth <| And.intro @ev_make <| And.intro @ev_fld <| And.intro @ev_setF <| And.intro @ev_bm1 <| And.intro @asQ_tup <| And.intro @asQ_lst <| And.intro @asQ_lsk <| And.intro @asL_lst <| And.intro @asL_lsk <| And.intro @dLen_tup <| And.intro @dLen_lst <| And.intro @dLen_lsk <| And.intro @dLen_str <| And.intro @dIx_tup <| And.intro @dIx_lst <| And.intro @dIx_lsk <| And.intro @dIx_str <| And.intro @dAdd_int <| And.intro @dNeg_int <| And.intro @isN_def <| And.intro @notN_def <| And.intro @isNon_non <| And.intro @isNon_int <| And.intro @isNon_bl <| And.intro @isNon_str <| And.intro @isNon_tup <| And.intro @isNon_lst <| And.intro @isNon_obj <| And.intro @isNon_exc <| And.intro @dEq_int <| And.intro @dNe_int <| And.intro @dEq_str <| And.intro @dNe_str <| And.intro @dEq_bl <| And.intro @atI_zero <| And.intro @atI_one <| And.intro @atI_2 <| And.intro @atI_3 <| And.intro @atI_4 <| And.intro @atI_5 <| And.intro @atI_6 <| And.intro @atI_7 <| And.intro @atI_8 <| And.intro @atI_9 <| And.intro @atI_10 <| And.intro @atI_11 <| And.intro @atI_12 <| And.intro @atI_m1 <| And.intro @ev_gT <| And.intro @setAll_nil <| And.intro @setAll_cons <| And.intro @iOp_int <| And.intro @ev_gN <| And.intro @ev_ret <| And.intro @List.map_cons.{0, 0} <| And.intro @List.map_nil.{0, 0} <| And.intro @List.length_cons.{0} <| And.intro @List.length_nil.{0} <| And.intro @rep_zero <| And.intro @rep_succ <| And.intro @List.cons_append.{0} <| And.intro @List.nil_append.{0} <| And.intro @List.getElem?_cons_zero.{0} <| And.intro @List.getElem?_cons_succ.{0} <| And.intro @List.set_cons_zero.{0} <| And.intro @List.set_cons_succ.{0} <| And.intro @Nat.sub_self <| And.intro @Option.map_some.{0, 0} <| And.intro @Option.bind_some.{0, 0} <| And.intro @if_true.{1} <| And.intro @Bool.not_true <| And.intro @Bool.not_false <| And.intro @Bool.false_eq_true <| And.intro @if_false.{1} <| And.intro @decide_true <| And.intro @decide_false <| And.intro @beq_self_eq_true.{0} <| And.intro @eq_self.{1} <| And.intro @not_true_eq_false <| And.intro @not_false_eq_true <| And.intro @true_and <| And.intro @and_true <| And.intro @true_or <| And.intro @or_true <| And.intro @false_or <| And.intro @or_false <| And.intro @and_false <| And.intro @false_and <| And.intro @decide_eq_true_eq <| And.intro @Bool.true_and <| And.intro @Bool.and_true <| And.intro @Bool.false_and <| And.intro @Bool.and_false <| And.intro @Bool.true_or <| And.intro @Bool.or_true <| And.intro @Bool.false_or <| And.intro @Bool.or_false <| And.intro @insD_at <| And.intro @isLst_at <| And.intro @asL_at <| And.intro @asQ_at <| And.intro @lstAt_at <| And.intro @trkL_at <| And.intro @truD_atS <| And.intro @dLen_at <| And.intro @dIx_at <| And.intro @isDic_at <| And.intro @setFD_at <| And.intro @isStr_str <| And.intro @isLst_lst <| And.intro @Option.isSome_some.{0} <| And.intro @Option.isSome_none.{0} <| And.intro @Option.isSome_map.{0, 0} <| And.intro @ev_for <| And.intro @ev_lc <| And.intro @ev_iSeq <| And.intro @ev_iRange <| And.intro @ev_sl <| And.intro @evp_none <| And.intro @evp_some <| And.intro @dSl_tup <| And.intro @dSl_lst <| And.intro @wipeD_nil <| And.intro @wipeD_cons <| And.intro @ev_tryH <| And.intro @ev_setI <| And.intro @ev_raise <| And.intro @ev_dput <| And.intro @ev_dnewK <| And.intro @ev_dnewT <| And.intro @setS_cons <| And.intro @setS_nil <| And.intro @mkS_beq <| And.intro @mkS_len <| And.intro @dSplit_mk <| And.intro @signs_mk <| And.intro @List.isEmpty_nil.{0} <| And.intro @List.isEmpty_cons.{0} <| And.intro @List.length_map.{0, 0} <| And.intro @ofS_beq <| And.intro @dIn_t2 <| And.intro @dIn_t3 <| And.intro @dDget_def <| And.intro @dgetD_at <| And.intro @dputD_at <| And.intro @keyD_str <| And.intro @keyD_int <| And.intro @valA_w <| And.intro @valA_nil <| And.intro @putA_w <| And.intro @putA_nilw <| And.intro @sz_1 <| And.intro @sz_2 <| And.intro @sz_3 <| And.intro @sz_4 <| And.intro @sz_5 <| And.intro @sz_6 <| And.intro @sz_7 <| And.intro @sz_8 <| And.intro @sz_9 <| And.intro @nc_lit <| And.intro @Int.natCast_one <| @Int.natCast_zero
end Pd
namespace Tx
open PySem L2 Pd
def top (i : Nat) : Stmt := PySem.Challenge.pw_tidinghall_k40_whole_rules.main.body.getD i (.Pass ⟨0, 0, 0, 0⟩)
def J : Cn
  | 0 => (Str.ofString "Search", [Str.ofString "known"])
  | 1 => (Str.ofString "TidingError", [])
  | 2 => (Str.ofString "BadName", [])
  | 3 => (Str.ofString "BadPacket", [])
  | 4 => (Str.ofString "BadBytes", [])
  | 5 => (Str.ofString "BadLine", [])
  | 6 => (Str.ofString "BadText", [])
  | _ => (Str.ofString "", [])
abbrev s_is_level : Stmt := top 11
theorem sc_is_level : FnScope ["level", "sign"] ["level"] (defScope s_is_level) := ⟨rfl, rfl, rfl, by decide +kernel, rfl, by decide +kernel, by decide +kernel⟩
abbrev s_look_hearer : Stmt := top 14
theorem sc_look_hearer : FnScope ["hearer", "sign"] ["hearer"] (defScope s_look_hearer) := ⟨rfl, rfl, rfl, by decide +kernel, rfl, by decide +kernel, by decide +kernel⟩
abbrev s_is_wide : Stmt := top 15
theorem sc_is_wide : FnScope ["level"] ["level"] (defScope s_is_wide) := ⟨rfl, rfl, rfl, by decide +kernel, rfl, by decide +kernel, by decide +kernel⟩
abbrev s_rules_of : Stmt := top 22
theorem sc_rules_of : FnScope ["rules", "hearer", "word", "rule"] ["rules", "hearer", "word"] (defScope s_rules_of) := ⟨rfl, rfl, rfl, by decide +kernel, rfl, by decide +kernel, by decide +kernel⟩
abbrev s_is_let_here : Stmt := top 25
theorem sc_is_let_here : FnScope ["rules", "is_let", "wished"] ["rules"] (defScope s_is_let_here) := ⟨rfl, rfl, rfl, by decide +kernel, rfl, by decide +kernel, by decide +kernel⟩
abbrev s_Search_init : Stmt := inClass (top 27) 0
theorem sc_Search_init : FnScope ["self"] ["self"] (defScope s_Search_init) := ⟨rfl, rfl, rfl, by decide +kernel, rfl, by decide +kernel, by decide +kernel⟩
abbrev s_law_cell : Stmt := top 30
theorem sc_law_cell : FnScope ["script", "k"] ["script", "k"] (defScope s_law_cell) := ⟨rfl, rfl, rfl, by decide +kernel, rfl, by decide +kernel, by decide +kernel⟩
abbrev s_law_refusal : Stmt := top 34
theorem sc_law_refusal : FnScope ["held", "kinds"] ["held"] (defScope s_law_refusal) := ⟨rfl, rfl, rfl, by decide +kernel, rfl, by decide +kernel, by decide +kernel⟩
abbrev s_law_is_level : Stmt := top 35
theorem sc_law_is_level : FnScope ["level", "codes", "sign", "one"] ["level"] (defScope s_law_is_level) := ⟨rfl, rfl, rfl, by decide +kernel, rfl, by decide +kernel, by decide +kernel⟩
abbrev s_law_fits : Stmt := top 37
theorem sc_law_fits : FnScope ["wish", "name", "wished", "levels", "k"] ["wish", "name"] (defScope s_law_fits) := ⟨rfl, rfl, rfl, by decide +kernel, rfl, by decide +kernel, by decide +kernel⟩
abbrev s_law_names : Stmt := top 40
theorem sc_law_names : FnScope ["found", "rows", "k", "longer", "row", "level", "name"] [] (defScope s_law_names) := ⟨rfl, rfl, rfl, by decide +kernel, rfl, by decide +kernel, by decide +kernel⟩
abbrev s_look_name : Stmt := top 12
theorem sc_look_name : FnScope ["name", "levels", "level"] ["name"] (defScope s_look_name) := ⟨rfl, rfl, rfl, by decide +kernel, rfl, by decide +kernel, by decide +kernel⟩
abbrev s_look_wish : Stmt := top 13
theorem sc_look_wish : FnScope ["wish", "levels", "plain", "level"] ["wish"] (defScope s_look_wish) := ⟨rfl, rfl, rfl, by decide +kernel, rfl, by decide +kernel, by decide +kernel⟩
abbrev s_stepped : Stmt := top 24
theorem sc_stepped : FnScope ["rules", "level", "is_first", "found", "is_let", "wished"] ["rules", "level", "is_first"] (defScope s_stepped) := ⟨rfl, rfl, rfl, by decide +kernel, rfl, by decide +kernel, by decide +kernel⟩
abbrev s_choices : Stmt := top 26
theorem sc_choices : FnScope ["wished", "rules", "is_first", "some", "is_let", "other", "level", "sign"] ["wished", "rules", "is_first"] (defScope s_choices) := ⟨rfl, rfl, rfl, by decide +kernel, rfl, by decide +kernel, by decide +kernel⟩
abbrev s_law_mix : Stmt := top 31
theorem sc_law_mix : FnScope ["script", "k", "number"] ["script", "k"] (defScope s_law_mix) := ⟨rfl, rfl, rfl, by decide +kernel, rfl, by decide +kernel, by decide +kernel⟩
abbrev s_law_is_name : Stmt := top 36
theorem sc_law_is_name : FnScope ["name", "levels", "level"] ["name"] (defScope s_law_is_name) := ⟨rfl, rfl, rfl, by decide +kernel, rfl, by decide +kernel, by decide +kernel⟩
abbrev s_law_lets : Stmt := top 39
theorem sc_law_lets : FnScope ["rules", "hearer", "word", "name", "rule"] ["rules", "hearer", "word", "name"] (defScope s_law_lets) := ⟨rfl, rfl, rfl, by decide +kernel, rfl, by decide +kernel, by decide +kernel⟩
abbrev s_Search_found : Stmt := inClass (top 27) 2
theorem sc_Search_found : FnScope ["self", "wished", "rules", "levels", "ends", "level", "later", "rest"] ["self", "wished", "rules", "levels"] (defScope s_Search_found) := ⟨rfl, rfl, rfl, by decide +kernel, rfl, by decide +kernel, by decide +kernel⟩
abbrev s_look_rules : Stmt := top 21
theorem sc_look_rules : FnScope ["rules", "rule"] ["rules"] (defScope s_look_rules) := ⟨rfl, rfl, rfl, by decide +kernel, rfl, by decide +kernel, by decide +kernel⟩
abbrev s_law_draw : Stmt := top 32
theorem sc_law_draw : FnScope ["script", "town", "many"] ["script", "town", "many"] (defScope s_law_draw) := ⟨rfl, rfl, rfl, by decide +kernel, rfl, by decide +kernel, by decide +kernel⟩
abbrev s_law_pick : Stmt := top 33
theorem sc_law_pick : FnScope ["script", "town", "some"] ["script", "town", "some"] (defScope s_law_pick) := ⟨rfl, rfl, rfl, by decide +kernel, rfl, by decide +kernel, by decide +kernel⟩
abbrev s_law_rules : Stmt := top 38
theorem sc_law_rules : FnScope ["script", "town", "most", "found", "k", "many", "levels", "wish", "word", "hearer", "j"] ["script", "town", "most"] (defScope s_law_rules) := ⟨rfl, rfl, rfl, by decide +kernel, rfl, by decide +kernel, by decide +kernel⟩
abbrev s_fits_levels : Stmt := top 16
theorem sc_fits_levels : FnScope ["wished", "levels"] ["wished", "levels"] (defScope s_fits_levels) := ⟨rfl, rfl, rfl, by decide +kernel, rfl, by decide +kernel, by decide +kernel⟩
abbrev s_fits : Stmt := top 17
theorem sc_fits : FnScope ["wish", "name", "wished"] ["wish", "name"] (defScope s_fits) := ⟨rfl, rfl, rfl, by decide +kernel, rfl, by decide +kernel, by decide +kernel⟩
abbrev s_may_say : Stmt := top 23
theorem sc_may_say : FnScope ["rules", "hearer", "name", "is_let", "wish"] ["rules", "hearer", "name"] (defScope s_may_say) := ⟨rfl, rfl, rfl, by decide +kernel, rfl, by decide +kernel, by decide +kernel⟩
abbrev s_Search_go : Stmt := inClass (top 27) 1
theorem sc_Search_go : FnScope ["self", "wished", "rules", "levels", "key"] ["self", "wished", "rules", "levels"] (defScope s_Search_go) := ⟨rfl, rfl, rfl, by decide +kernel, rfl, by decide +kernel, by decide +kernel⟩
abbrev s_may_hear : Stmt := top 28
theorem sc_may_hear : FnScope ["rules", "hearer", "wish", "some", "found", "is_let", "other"] ["rules", "hearer", "wish"] (defScope s_may_hear) := ⟨rfl, rfl, rfl, by decide +kernel, rfl, by decide +kernel, by decide +kernel⟩
abbrev s_law_told : Stmt := top 41
theorem sc_law_told : FnScope ["way", "rules", "hearer", "thing", "held", "found", "e"] ["way", "rules", "hearer", "thing"] (defScope s_law_told) := ⟨rfl, rfl, rfl, by decide +kernel, rfl, by decide +kernel, by decide +kernel⟩
abbrev s_law_good : Stmt := top 42
theorem sc_law_good : FnScope ["rules", "hearer", "wish", "found", "some", "name"] ["rules", "hearer", "wish"] (defScope s_law_good) := ⟨rfl, rfl, rfl, by decide +kernel, rfl, by decide +kernel, by decide +kernel⟩
abbrev s_law : Stmt := top 43
theorem sc_law : FnScope ["script", "town", "rules", "hearer", "wish", "given", "names", "k", "name", "found", "bad", "way"] ["script"] (defScope s_law) := ⟨rfl, rfl, rfl, by decide +kernel, rfl, by decide +kernel, by decide +kernel⟩
structure Ad where
  (f_is_level f_look_hearer f_is_wide f_rules_of f_is_let_here f_Search_init f_law_cell f_law_refusal f_law_is_level f_law_fits f_law_names f_look_name f_look_wish f_stepped f_choices f_law_mix f_law_is_name f_law_lets f_Search_found f_look_rules f_law_draw f_law_pick f_law_rules f_fits_levels f_fits f_may_say f_Search_go f_may_hear f_law_told f_law_good f_law C_Search C_TidingError C_BadName C_BadPacket C_BadBytes C_BadLine C_BadText : Addr)
  (t_MOST_LEVELS t_MOST_SIGNS t_SMALL t_MOST_RULES t_FRESH : Tok)
structure Txt (w : World) (K : PySem.W.Frag) (mg : Str → Option Value) (A : Ad) : Prop where
  d_is_level : ∃ fd, Fun K "is_level" "is_level" s_is_level A.f_is_level fd ∧ Binds K fd ["level"] []
  g_is_level : mg "is_level" = some (.ref A.f_is_level)
  k_is_level : PySem.W.keepIn K (.ref A.f_is_level) = true
  d_look_hearer : ∃ fd, Fun K "look_hearer" "look_hearer" s_look_hearer A.f_look_hearer fd ∧ Binds K fd ["hearer"] []
  g_look_hearer : mg "look_hearer" = some (.ref A.f_look_hearer)
  k_look_hearer : PySem.W.keepIn K (.ref A.f_look_hearer) = true
  d_is_wide : ∃ fd, Fun K "is_wide" "is_wide" s_is_wide A.f_is_wide fd ∧ Binds K fd ["level"] []
  g_is_wide : mg "is_wide" = some (.ref A.f_is_wide)
  k_is_wide : PySem.W.keepIn K (.ref A.f_is_wide) = true
  d_rules_of : ∃ fd, Fun K "rules_of" "rules_of" s_rules_of A.f_rules_of fd ∧ Binds K fd ["rules", "hearer", "word"] []
  g_rules_of : mg "rules_of" = some (.ref A.f_rules_of)
  k_rules_of : PySem.W.keepIn K (.ref A.f_rules_of) = true
  d_is_let_here : ∃ fd, Fun K "is_let_here" "is_let_here" s_is_let_here A.f_is_let_here fd ∧ Binds K fd ["rules"] []
  g_is_let_here : mg "is_let_here" = some (.ref A.f_is_let_here)
  k_is_let_here : PySem.W.keepIn K (.ref A.f_is_let_here) = true
  d_Search_init : ∃ fd, Fun K "__init__" "Search.__init__" s_Search_init A.f_Search_init fd ∧ Binds K fd ["self"] []
  d_law_cell : ∃ fd, Fun K "_law_cell" "_law_cell" s_law_cell A.f_law_cell fd ∧ Binds K fd ["script", "k"] []
  g_law_cell : mg "_law_cell" = some (.ref A.f_law_cell)
  k_law_cell : PySem.W.keepIn K (.ref A.f_law_cell) = true
  d_law_refusal : ∃ fd, Fun K "_law_refusal" "_law_refusal" s_law_refusal A.f_law_refusal fd ∧ Binds K fd ["held"] []
  g_law_refusal : mg "_law_refusal" = some (.ref A.f_law_refusal)
  k_law_refusal : PySem.W.keepIn K (.ref A.f_law_refusal) = true
  d_law_is_level : ∃ fd, Fun K "_law_is_level" "_law_is_level" s_law_is_level A.f_law_is_level fd ∧ Binds K fd ["level"] []
  g_law_is_level : mg "_law_is_level" = some (.ref A.f_law_is_level)
  k_law_is_level : PySem.W.keepIn K (.ref A.f_law_is_level) = true
  d_law_fits : ∃ fd, Fun K "_law_fits" "_law_fits" s_law_fits A.f_law_fits fd ∧ Binds K fd ["wish", "name"] []
  g_law_fits : mg "_law_fits" = some (.ref A.f_law_fits)
  k_law_fits : PySem.W.keepIn K (.ref A.f_law_fits) = true
  d_law_names : ∃ fd, Fun K "_law_names" "_law_names" s_law_names A.f_law_names fd ∧ Binds K fd [] []
  g_law_names : mg "_law_names" = some (.ref A.f_law_names)
  k_law_names : PySem.W.keepIn K (.ref A.f_law_names) = true
  d_look_name : ∃ fd, Fun K "look_name" "look_name" s_look_name A.f_look_name fd ∧ Binds K fd ["name"] []
  g_look_name : mg "look_name" = some (.ref A.f_look_name)
  k_look_name : PySem.W.keepIn K (.ref A.f_look_name) = true
  d_look_wish : ∃ fd, Fun K "look_wish" "look_wish" s_look_wish A.f_look_wish fd ∧ Binds K fd ["wish"] []
  g_look_wish : mg "look_wish" = some (.ref A.f_look_wish)
  k_look_wish : PySem.W.keepIn K (.ref A.f_look_wish) = true
  d_stepped : ∃ fd, Fun K "stepped" "stepped" s_stepped A.f_stepped fd ∧ Binds K fd ["rules", "level", "is_first"] []
  g_stepped : mg "stepped" = some (.ref A.f_stepped)
  k_stepped : PySem.W.keepIn K (.ref A.f_stepped) = true
  d_choices : ∃ fd, Fun K "choices" "choices" s_choices A.f_choices fd ∧ Binds K fd ["wished", "rules", "is_first"] []
  g_choices : mg "choices" = some (.ref A.f_choices)
  k_choices : PySem.W.keepIn K (.ref A.f_choices) = true
  d_law_mix : ∃ fd, Fun K "_law_mix" "_law_mix" s_law_mix A.f_law_mix fd ∧ Binds K fd ["script", "k"] []
  g_law_mix : mg "_law_mix" = some (.ref A.f_law_mix)
  k_law_mix : PySem.W.keepIn K (.ref A.f_law_mix) = true
  d_law_is_name : ∃ fd, Fun K "_law_is_name" "_law_is_name" s_law_is_name A.f_law_is_name fd ∧ Binds K fd ["name"] []
  g_law_is_name : mg "_law_is_name" = some (.ref A.f_law_is_name)
  k_law_is_name : PySem.W.keepIn K (.ref A.f_law_is_name) = true
  d_law_lets : ∃ fd, Fun K "_law_lets" "_law_lets" s_law_lets A.f_law_lets fd ∧ Binds K fd ["rules", "hearer", "word", "name"] []
  g_law_lets : mg "_law_lets" = some (.ref A.f_law_lets)
  k_law_lets : PySem.W.keepIn K (.ref A.f_law_lets) = true
  d_Search_found : ∃ fd, Fun K "found" "Search.found" s_Search_found A.f_Search_found fd ∧ Binds K fd ["self", "wished", "rules", "levels"] []
  d_look_rules : ∃ fd, Fun K "look_rules" "look_rules" s_look_rules A.f_look_rules fd ∧ Binds K fd ["rules"] []
  g_look_rules : mg "look_rules" = some (.ref A.f_look_rules)
  k_look_rules : PySem.W.keepIn K (.ref A.f_look_rules) = true
  d_law_draw : ∃ fd, Fun K "_law_draw" "_law_draw" s_law_draw A.f_law_draw fd ∧ Binds K fd ["script", "town", "many"] []
  g_law_draw : mg "_law_draw" = some (.ref A.f_law_draw)
  k_law_draw : PySem.W.keepIn K (.ref A.f_law_draw) = true
  d_law_pick : ∃ fd, Fun K "_law_pick" "_law_pick" s_law_pick A.f_law_pick fd ∧ Binds K fd ["script", "town", "some"] []
  g_law_pick : mg "_law_pick" = some (.ref A.f_law_pick)
  k_law_pick : PySem.W.keepIn K (.ref A.f_law_pick) = true
  d_law_rules : ∃ fd, Fun K "_law_rules" "_law_rules" s_law_rules A.f_law_rules fd ∧ Binds K fd ["script", "town", "most"] []
  g_law_rules : mg "_law_rules" = some (.ref A.f_law_rules)
  k_law_rules : PySem.W.keepIn K (.ref A.f_law_rules) = true
  d_fits_levels : ∃ fd, Fun K "fits_levels" "fits_levels" s_fits_levels A.f_fits_levels fd ∧ Binds K fd ["wished", "levels"] []
  g_fits_levels : mg "fits_levels" = some (.ref A.f_fits_levels)
  k_fits_levels : PySem.W.keepIn K (.ref A.f_fits_levels) = true
  d_fits : ∃ fd, Fun K "fits" "fits" s_fits A.f_fits fd ∧ Binds K fd ["wish", "name"] []
  g_fits : mg "fits" = some (.ref A.f_fits)
  k_fits : PySem.W.keepIn K (.ref A.f_fits) = true
  d_may_say : ∃ fd, Fun K "may_say" "may_say" s_may_say A.f_may_say fd ∧ Binds K fd ["rules", "hearer", "name"] []
  g_may_say : mg "may_say" = some (.ref A.f_may_say)
  k_may_say : PySem.W.keepIn K (.ref A.f_may_say) = true
  d_Search_go : ∃ fd, Fun K "go" "Search.go" s_Search_go A.f_Search_go fd ∧ Binds K fd ["self", "wished", "rules", "levels"] []
  d_may_hear : ∃ fd, Fun K "may_hear" "may_hear" s_may_hear A.f_may_hear fd ∧ Binds K fd ["rules", "hearer", "wish"] []
  g_may_hear : mg "may_hear" = some (.ref A.f_may_hear)
  k_may_hear : PySem.W.keepIn K (.ref A.f_may_hear) = true
  d_law_told : ∃ fd, Fun K "_law_told" "_law_told" s_law_told A.f_law_told fd ∧ Binds K fd ["way", "rules", "hearer", "thing"] []
  g_law_told : mg "_law_told" = some (.ref A.f_law_told)
  k_law_told : PySem.W.keepIn K (.ref A.f_law_told) = true
  d_law_good : ∃ fd, Fun K "_law_good" "_law_good" s_law_good A.f_law_good fd ∧ Binds K fd ["rules", "hearer", "wish"] []
  g_law_good : mg "_law_good" = some (.ref A.f_law_good)
  k_law_good : PySem.W.keepIn K (.ref A.f_law_good) = true
  d_law : ∃ fd, Fun K "law" "law" s_law A.f_law fd ∧ Binds K fd ["script"] []
  g_law : mg "law" = some (.ref A.f_law)
  k_law : PySem.W.keepIn K (.ref A.f_law) = true
  a_Search_known : AtF J K mg 0 0 "known"
  mk_Search : MkF J K mg 0 A.C_Search A.f_Search_init
  me_Search_found : MeF J K mg 0 "found" A.C_Search A.f_Search_found
  me_Search_go : MeF J K mg 0 "go" A.C_Search A.f_Search_go
  x_TidingError : PySem.W.excIn K A.C_TidingError [.type "ValueError", .type "Exception", .type "BaseException", .type "object"] "ValueError.__new__" = true
  gc_TidingError : mg "TidingError" = some (.ref A.C_TidingError)
  kc_TidingError : PySem.W.keepIn K (.ref A.C_TidingError) = true
  b_TidingError : PySem.W.subIn K (.ref A.C_TidingError) (.type "BaseException") = some true
  t_TidingError : PySem.W.typeIn K (.ref A.C_TidingError) = some (.type "type")
  x_BadName : PySem.W.excIn K A.C_BadName [.type "ValueError", .type "Exception", .type "BaseException", .type "object"] "ValueError.__new__" = true
  gc_BadName : mg "BadName" = some (.ref A.C_BadName)
  kc_BadName : PySem.W.keepIn K (.ref A.C_BadName) = true
  b_BadName : PySem.W.subIn K (.ref A.C_BadName) (.type "BaseException") = some true
  t_BadName : PySem.W.typeIn K (.ref A.C_BadName) = some (.type "type")
  x_BadPacket : PySem.W.excIn K A.C_BadPacket [.type "ValueError", .type "Exception", .type "BaseException", .type "object"] "ValueError.__new__" = true
  gc_BadPacket : mg "BadPacket" = some (.ref A.C_BadPacket)
  kc_BadPacket : PySem.W.keepIn K (.ref A.C_BadPacket) = true
  b_BadPacket : PySem.W.subIn K (.ref A.C_BadPacket) (.type "BaseException") = some true
  t_BadPacket : PySem.W.typeIn K (.ref A.C_BadPacket) = some (.type "type")
  x_BadBytes : PySem.W.excIn K A.C_BadBytes [.type "ValueError", .type "Exception", .type "BaseException", .type "object"] "ValueError.__new__" = true
  gc_BadBytes : mg "BadBytes" = some (.ref A.C_BadBytes)
  kc_BadBytes : PySem.W.keepIn K (.ref A.C_BadBytes) = true
  b_BadBytes : PySem.W.subIn K (.ref A.C_BadBytes) (.type "BaseException") = some true
  t_BadBytes : PySem.W.typeIn K (.ref A.C_BadBytes) = some (.type "type")
  x_BadLine : PySem.W.excIn K A.C_BadLine [.type "ValueError", .type "Exception", .type "BaseException", .type "object"] "ValueError.__new__" = true
  gc_BadLine : mg "BadLine" = some (.ref A.C_BadLine)
  kc_BadLine : PySem.W.keepIn K (.ref A.C_BadLine) = true
  b_BadLine : PySem.W.subIn K (.ref A.C_BadLine) (.type "BaseException") = some true
  t_BadLine : PySem.W.typeIn K (.ref A.C_BadLine) = some (.type "type")
  x_BadText : PySem.W.excIn K A.C_BadText [.type "ValueError", .type "Exception", .type "BaseException", .type "object"] "ValueError.__new__" = true
  gc_BadText : mg "BadText" = some (.ref A.C_BadText)
  kc_BadText : PySem.W.keepIn K (.ref A.C_BadText) = true
  b_BadText : PySem.W.subIn K (.ref A.C_BadText) (.type "BaseException") = some true
  t_BadText : PySem.W.typeIn K (.ref A.C_BadText) = some (.type "type")
  xm_TidingError : XmF J K mg [1, 2, 3, 4, 5, 6] (.ref A.C_TidingError)
  xn_TidingError : XnF J K mg [] (.ref A.C_TidingError)
  ix_BadName : IsxF J K mg [(1, false), (2, true), (3, false), (4, false), (5, false), (6, false)] (.ref A.C_BadName)
  ix_BadPacket : IsxF J K mg [(1, false), (2, false), (3, true), (4, false), (5, false), (6, false)] (.ref A.C_BadPacket)
  ix_BadBytes : IsxF J K mg [(1, false), (2, false), (3, false), (4, true), (5, false), (6, false)] (.ref A.C_BadBytes)
  ix_BadLine : IsxF J K mg [(1, false), (2, false), (3, false), (4, false), (5, true), (6, false)] (.ref A.C_BadLine)
  ix_BadText : IsxF J K mg [(1, false), (2, false), (3, false), (4, false), (5, false), (6, true)] (.ref A.C_BadText)
  ix_ValueError : IsxF J K mg [(1, true), (2, true), (3, true), (4, true), (5, true), (6, true)] (.type "ValueError")
  n_ValueError : mg "ValueError" = none
  n_all : mg "all" = none
  n_bool : mg "bool" = none
  n_isinstance : mg "isinstance" = none
  n_len : mg "len" = none
  n_list : mg "list" = none
  n_ord : mg "ord" = none
  n_range : mg "range" = none
  n_set : mg "set" = none
  n_sorted : mg "sorted" = none
  n_str : mg "str" = none
  n_tuple : mg "tuple" = none
  c_MOST_LEVELS : mg "MOST_LEVELS" = some (.int 8 A.t_MOST_LEVELS)
  c_MOST_SIGNS : mg "MOST_SIGNS" = some (.int 12 A.t_MOST_SIGNS)
  c_SMALL : mg "SMALL" = some (.str (Str.ofString "abcdefghijklmnopqrstuvwxyz0123456789") A.t_SMALL)
  c_MOST_RULES : mg "MOST_RULES" = some (.int 12 A.t_MOST_RULES)
  c_FRESH : mg "FRESH" = some (.str (Str.ofString "abcdefghijklmnopqrstuvwxyz") A.t_FRESH)
/-! ### what each def means -/
noncomputable def b_is_level : Sx := sSeq (sIf (tBl (eOp dGt (eUn dLen (eVar 0)) (eC (.int 12)))) (sRet (eC (.bl false))) (sNext)) (sRet (eUn dAll (eLc nwF [1] (iSeq (eVar 0)) (gN 1) (Pd.tYes) (eAnd (eChain dLe dLt (eC (.int 32)) (eUn dOrd (eVar 1)) (eC (.int 127))) (eAnd (eOp dNe (eUn dOrd (eVar 1)) (eC (.int 37))) (eOp dNotIn (eVar 1) (eC (.str (Str.ofString "+#/")))))))))
noncomputable def m_is_level : Fn := fnOf 2 b_is_level
noncomputable def b_look_hearer : Sx := sIf (tOr (tNot (tBl (eChain dLe dLe (eC (.int 1)) (eUn dLen (eVar 0)) (eC (.int 12))))) (tNot (tTru (eUn dAll (eLc nwF [1] (iSeq (eVar 0)) (gN 1) (Pd.tYes) (eOp dIn (eVar 1) (eC (.str (Str.ofString "abcdefghijklmnopqrstuvwxyz0123456789"))))))))) (sRaise 2) (sNext)
noncomputable def m_look_hearer : Fn := fnOf 2 b_look_hearer
noncomputable def b_is_wide : Sx := sRet (eOp dIn (eVar 0) (eTup [eC (.str (Str.ofString "+")), eC (.str (Str.ofString "#"))]))
noncomputable def m_is_wide : Fn := fnOf 1 b_is_wide
noncomputable def b_rules_of : Sx := sRet (eLc nwF [3] (iSeq (eVar 0)) (gN 3) (tAnd (tBl (eOp dIn (eOp dIx (eVar 3) (eC (.int 1))) (eTup [eC (.str (Str.ofString "")), eVar 1]))) (tBl (eOp dIn (eOp dIx (eVar 3) (eC (.int 2))) (eTup [eVar 2, eC (.str (Str.ofString "both"))])))) (eTup [eOp dIx (eVar 3) (eC (.int 0)), eOp dIx (eVar 3) (eC (.int 3))]))
noncomputable def m_rules_of : Fn := fnOf 4 b_rules_of
noncomputable def l_is_let_here_1 : Sx := sIf (tOr (tNot (tTru (eVar 2))) (tBl (eOp dEq (eVar 2) (eTup [eC (.str (Str.ofString "#"))])))) (sRet (eVar 1)) (sNext)
noncomputable def u_is_let_here_1 : Sx := sFor (iSeq (eVar 0)) (gT [1, 2]) (l_is_let_here_1)
noncomputable def u_is_let_here_2 : Sx := sRet (eC (.bl true))
noncomputable def b_is_let_here : Sx := sSeq u_is_let_here_1 (u_is_let_here_2)
noncomputable def m_is_let_here : Fn := fnOf 3 b_is_let_here
noncomputable def b_Search_init : Sx := sSetF 0 0 (eVar 0) (eDnewN)
noncomputable def m_Search_init : Fn := fnOf 1 b_Search_init
noncomputable def b_law_cell : Sx := sSeq (sIf (tTru (eVar 0)) (sRet (eOp dIx (eVar 0) (eOp dMod (eVar 1) (eUn dLen (eVar 0))))) (sNext)) (sRet (eC (.int 0)))
noncomputable def m_law_cell : Fn := fnOf 2 b_law_cell
noncomputable def b_law_refusal : Sx := sSeq (sIf (tBl (eUn dIsN (eVar 0))) (sRet (eTup [eC (.str (Str.ofString "ok"))])) (sNext)) (sSeq (sAsg (eLst nwF [eUn (dIsx [(1, false), (2, true), (3, false), (4, false), (5, false), (6, false)]) (eVar 0), eUn (dIsx [(1, false), (2, false), (3, true), (4, false), (5, false), (6, false)]) (eVar 0), eUn (dIsx [(1, false), (2, false), (3, false), (4, true), (5, false), (6, false)]) (eVar 0)]) (gN 1)) (sSeq (sAsg (eOp (dAdd nwF) (eVar 1) (eLst nwF [eUn (dIsx [(1, false), (2, false), (3, false), (4, false), (5, true), (6, false)]) (eVar 0), eUn (dIsx [(1, false), (2, false), (3, false), (4, false), (5, false), (6, true)]) (eVar 0)])) (gN 1)) (sSeq (sIf (tOr (tBl (eOp dNe (eBm1 isLst dCount (eVar 1) (eC (.bl true))) (eC (.int 1)))) (tNot (tTru (eUn (dIsx [(1, true), (2, true), (3, true), (4, true), (5, true), (6, true)]) (eVar 0))))) (sRet (eTup [eC (.str (Str.ofString "wrong"))])) (sNext)) (sRet (eTup [eC (.str (Str.ofString "refused")), eOp dIx (eLst nwF [eC (.str (Str.ofString "name")), eC (.str (Str.ofString "packet")), eC (.str (Str.ofString "bytes")), eC (.str (Str.ofString "line")), eC (.str (Str.ofString "text"))]) (eBm1 isLst dIndex (eVar 1) (eC (.bl true)))])))))
noncomputable def m_law_refusal : Fn := fnOf 2 b_law_refusal
noncomputable def b_law_is_level : Sx := sSeq (sAsg (eLc nwF [2] (iSeq (eVar 0)) (gN 2) (Pd.tYes) (eUn dOrd (eVar 2))) (gN 1)) (sRet (eAnd (eOp dLt (eUn dLen (eVar 0)) (eC (.int 13))) (eUn dAll (eLc nwF [3] (iSeq (eVar 1)) (gN 3) (Pd.tYes) (eAnd (eChain dLe dLt (eC (.int 32)) (eVar 3) (eC (.int 127))) (eOp dNotIn (eVar 3) (eTup [eC (.int 35), eC (.int 37), eC (.int 43)])))))))
noncomputable def m_law_is_level : Fn := fnOf 4 b_law_is_level
noncomputable def b_law_fits : Sx := sSeq (sAsg (eBm1 isStr (dSplit nwF) (eVar 0) (eC (.str (Str.ofString "/")))) (gN 2)) (sSeq (sAsg (eBm1 isStr (dSplit nwF) (eVar 1) (eC (.str (Str.ofString "/")))) (gN 3)) (sSeq (sIf (tAnd (tBl (eOp dIn (eOp dIx (eVar 2) (eC (.int 0))) (eTup [eC (.str (Str.ofString "+")), eC (.str (Str.ofString "#"))]))) (tBl (eOp dEq (eSl nwF (eOp dIx (eVar 3) (eC (.int 0))) none (some (eC (.int 1)))) (eC (.str (Str.ofString "$")))))) (sRet (eC (.bl false))) (sNext)) (sSeq (sIf (tBl (eOp dEq (eOp dIx (eVar 2) (eUn dNeg (eC (.int 1)))) (eC (.str (Str.ofString "#"))))) (sSeq (sAsg (eSl nwF (eVar 2) none (some (eUn dNeg (eC (.int 1))))) (gN 2)) (sSeq (sIf (tBl (eOp dLt (eUn dLen (eVar 3)) (eUn dLen (eVar 2)))) (sRet (eC (.bl false))) (sNext)) (sAsg (eSl nwF (eVar 3) none (some (eUn dLen (eVar 2)))) (gN 3)))) (sNext)) (sSeq (sIf (tBl (eOp dNe (eUn dLen (eVar 2)) (eUn dLen (eVar 3)))) (sRet (eC (.bl false))) (sNext)) (sRet (eUn dAll (eLc nwF [4] (iRange (eUn dLen (eVar 2))) (gN 4) (Pd.tYes) (eOp dIn (eOp dIx (eVar 2) (eVar 4)) (eTup [eC (.str (Str.ofString "+")), eOp dIx (eVar 3) (eVar 4)])))))))))
noncomputable def m_law_fits : Fn := fnOf 5 b_law_fits
noncomputable def l_law_names_1 : Sx := sAsg (eOp (dAdd nwF) (eVar 3) (eLc nwF [5] (iSeq (eLst nwF [eC (.str (Str.ofString "a")), eC (.str (Str.ofString "b")), eC (.str (Str.ofString "c")), eC (.str (Str.ofString "")), eC (.str (Str.ofString "$s"))])) (gN 5) (Pd.tYes) (eOp (dAdd nwF) (eOp (dAdd nwF) (eVar 4) (eIf (tBl (eOp dGt (eVar 2) (eC (.int 0)))) (eC (.str (Str.ofString "/"))) (eC (.str (Str.ofString ""))))) (eVar 5)))) (gN 3)
noncomputable def w_law_names_1 : Sx := sAsg (eLst nwF []) (gN 3)
noncomputable def w_law_names_2 : Sx := sFor (iSeq (eVar 1)) (gN 4) (l_law_names_1)
noncomputable def w_law_names_3 : Sx := sAsg (eVar 3) (gN 1)
noncomputable def w_law_names_4 : Sx := sAsg (eOp (dAdd nwF) (eVar 0) (eVar 1)) (gN 0)
noncomputable def l_law_names_2 : Sx := sSeq w_law_names_1 (sSeq w_law_names_2 (sSeq w_law_names_3 (w_law_names_4)))
noncomputable def u_law_names_1 : Sx := sAsg (eLst nwF []) (gN 0)
noncomputable def u_law_names_2 : Sx := sAsg (eLst nwF [eC (.str (Str.ofString ""))]) (gN 1)
noncomputable def u_law_names_3 : Sx := sFor (iRange (eC (.int 4))) (gN 2) (l_law_names_2)
noncomputable def u_law_names_4 : Sx := sRet (eLc nwF [6] (iSeq (eVar 0)) (gN 6) (tBl (eOp dNe (eVar 6) (eC (.str (Str.ofString ""))))) (eVar 6))
noncomputable def b_law_names : Sx := sSeq u_law_names_1 (sSeq u_law_names_2 (sSeq u_law_names_3 (u_law_names_4)))
noncomputable def m_law_names : Fn := fnOf 7 b_law_names
noncomputable def b_look_name : Sx := sSeq (sAsg (eBm1 isStr (dSplit nwF) (eVar 0) (eC (.str (Str.ofString "/")))) (gN 1)) (sIf (tOr (tBl (eOp dEq (eVar 0) (eC (.str (Str.ofString ""))))) (tOr (tBl (eOp dGt (eUn dLen (eVar 1)) (eC (.int 8)))) (tNot (tTru (eUn dAll (eLc nwF [2] (iSeq (eVar 1)) (gN 2) (Pd.tYes) (eCall m_is_level [eVar 2]))))))) (sRaise 2) (sNext))
noncomputable def m_look_name : Fn := fnOf 3 b_look_name
noncomputable def b_look_wish : Sx := sSeq (sAsg (eBm1 isStr (dSplit nwF) (eVar 0) (eC (.str (Str.ofString "/")))) (gN 1)) (sSeq (sAsg (eIf (tBl (eOp dEq (eOp dIx (eVar 1) (eUn dNeg (eC (.int 1)))) (eC (.str (Str.ofString "#"))))) (eSl nwF (eVar 1) none (some (eUn dNeg (eC (.int 1))))) (eVar 1)) (gN 2)) (sIf (tOr (tBl (eOp dEq (eVar 0) (eC (.str (Str.ofString ""))))) (tOr (tBl (eOp dGt (eUn dLen (eVar 1)) (eC (.int 8)))) (tNot (tTru (eUn dAll (eLc nwF [3] (iSeq (eVar 2)) (gN 3) (Pd.tYes) (eOr (eOp dEq (eVar 3) (eC (.str (Str.ofString "+")))) (eCall m_is_level [eVar 3])))))))) (sRaise 2) (sNext)))
noncomputable def m_look_wish : Fn := fnOf 4 b_look_wish
noncomputable def l_stepped_1 : Sx := sIf (tAnd (tTru (eSl nwF (eVar 5) none (some (eC (.int 1))))) (tNot (tAnd (tTru (eVar 2)) (tAnd (tTru (eCall m_is_wide [eOp dIx (eVar 5) (eC (.int 0))])) (tTru (eBm1 isStr dStarts (eVar 1) (eC (.str (Str.ofString "$"))))))))) (sIf (tBl (eOp dEq (eOp dIx (eVar 5) (eC (.int 0))) (eC (.str (Str.ofString "#"))))) (sExpr (eBm1 isLst dApp (eVar 3) (eTup [eVar 4, eVar 5]))) (sIf (tBl (eOp dIn (eOp dIx (eVar 5) (eC (.int 0))) (eTup [eC (.str (Str.ofString "+")), eVar 1]))) (sExpr (eBm1 isLst dApp (eVar 3) (eTup [eVar 4, eSl nwF (eVar 5) (some (eC (.int 1))) none]))) (sNext))) (sNext)
noncomputable def u_stepped_1 : Sx := sAsg (eLst nwM []) (gN 3)
noncomputable def u_stepped_2 : Sx := sFor (iSeq (eVar 0)) (gT [4, 5]) (l_stepped_1)
noncomputable def u_stepped_3 : Sx := sRet (eVar 3)
noncomputable def b_stepped : Sx := sSeq u_stepped_1 (sSeq u_stepped_2 (u_stepped_3))
noncomputable def m_stepped : Fn := fnOf 6 b_stepped
noncomputable def u_choices_1 : Sx := sIf (tNot (tTru (eCall m_is_wide [eOp dIx (eVar 0) (eC (.int 0))]))) (sRet (eLst nwF [eOp dIx (eVar 0) (eC (.int 0))])) (sNext)
noncomputable def u_choices_2 : Sx := sAsg (eUn (dSortTx nwF) (eLc nwF [4, 5] (iSeq (eVar 1)) (gT [4, 5]) (tAnd (tTru (eSl nwF (eVar 5) none (some (eC (.int 1))))) (tNot (tTru (eCall m_is_wide [eOp dIx (eVar 5) (eC (.int 0))])))) (eOp dIx (eVar 5) (eC (.int 0))))) (gN 3)
noncomputable def u_choices_3 : Sx := sIf (tTru (eVar 2)) (sAsg (eLc nwF [6] (iSeq (eVar 3)) (gN 6) (tNot (tTru (eBm1 isStr dStarts (eVar 6) (eC (.str (Str.ofString "$")))))) (eVar 6)) (gN 3)) (sNext)
noncomputable def u_choices_4 : Sx := sRet (eOp (dAdd nwF) (eVar 3) (eLst nwF [eOp dIx (eLc nwF [7] (iSeq (eC (.str (Str.ofString "abcdefghijklmnopqrstuvwxyz")))) (gN 7) (tBl (eOp dNotIn (eVar 7) (eVar 3))) (eVar 7)) (eC (.int 0))]))
noncomputable def b_choices : Sx := sSeq u_choices_1 (sSeq u_choices_2 (sSeq u_choices_3 (u_choices_4)))
noncomputable def m_choices : Fn := fnOf 8 b_choices
noncomputable def b_law_mix : Sx := sSeq (sAsg (eOp dMod (eOp (dAdd nwF) (eCall m_law_cell [eVar 0, eVar 1]) (eOp dMul (eC (.int 104729)) (eOp (dAdd nwF) (eVar 1) (eC (.int 1))))) (eC (.int 4294967291))) (gN 2)) (sSeq (sAsg (eOp dMod (eOp dPow (eVar 2) (eC (.int 5))) (eC (.int 4294967279))) (gN 2)) (sRet (eOp dMod (eOp (dAdd nwF) (eOp dMul (eOp dFdv (eVar 2) (eC (.int 64))) (eC (.int 69621))) (eVar 2)) (eC (.int 4294967231)))))
noncomputable def m_law_mix : Fn := fnOf 3 b_law_mix
noncomputable def b_law_is_name : Sx := sSeq (sAsg (eBm1 isStr (dSplit nwF) (eVar 0) (eC (.str (Str.ofString "/")))) (gN 1)) (sRet (eAnd (eOp dNe (eVar 0) (eC (.str (Str.ofString "")))) (eAnd (eOp dLt (eUn dLen (eVar 1)) (eC (.int 9))) (eUn dAll (eLc nwF [2] (iSeq (eVar 1)) (gN 2) (Pd.tYes) (eCall m_law_is_level [eVar 2]))))))
noncomputable def m_law_is_name : Fn := fnOf 3 b_law_is_name
noncomputable def l_law_lets_1 : Sx := sIf (tAnd (tBl (eOp dIn (eOp dIx (eVar 4) (eC (.int 1))) (eTup [eC (.str (Str.ofString "")), eVar 1]))) (tAnd (tBl (eOp dIn (eOp dIx (eVar 4) (eC (.int 2))) (eTup [eVar 2, eC (.str (Str.ofString "both"))]))) (tTru (eCall m_law_fits [eOp dIx (eVar 4) (eC (.int 3)), eVar 3])))) (sRet (eOp dIx (eVar 4) (eC (.int 0)))) (sNext)
noncomputable def u_law_lets_1 : Sx := sFor (iSeq (eVar 0)) (gN 4) (l_law_lets_1)
noncomputable def u_law_lets_2 : Sx := sRet (eC (.bl true))
noncomputable def b_law_lets : Sx := sSeq u_law_lets_1 (u_law_lets_2)
noncomputable def m_law_lets : Fn := fnOf 5 b_law_lets
noncomputable def w_Search_found_1 (rec : Fn) : Sx := sAsg (eIf (tBl (eOp dEq (eOp dIx (eVar 1) (eC (.int 0))) (eC (.str (Str.ofString "#"))))) (eVar 1) (eSl nwF (eVar 1) (some (eC (.int 1))) none)) (gN 6)
noncomputable def w_Search_found_2 (rec : Fn) : Sx := sAsg (eMeth 0 rec (eVar 0) [eVar 6, eCall m_stepped [eVar 2, eVar 5, eOp dEq (eVar 3) (eTup [])], eOp (dAdd nwF) (eVar 3) (eTup [eVar 5])]) (gN 7)
noncomputable def w_Search_found_3 (rec : Fn) : Sx := sIf (tBl (eUn dNotN (eVar 7))) (sRet (eOp (dAdd nwF) (eTup [eVar 5]) (eVar 7))) (sNext)
noncomputable def l_Search_found_1 (rec : Fn) : Sx := sSeq (w_Search_found_1 rec) (sSeq (w_Search_found_2 rec) ((w_Search_found_3 rec)))
noncomputable def u_Search_found_1 (rec : Fn) : Sx := sAsg (eAnd (eOp dNe (eVar 3) (eTup [])) (eAnd (eOp dNe (eVar 3) (eTup [eC (.str (Str.ofString ""))])) (eOr (eOp dEq (eVar 1) (eTup [])) (eOp dEq (eVar 1) (eTup [eC (.str (Str.ofString "#"))]))))) (gN 4)
noncomputable def u_Search_found_2 (rec : Fn) : Sx := sIf (tAnd (tTru (eVar 4)) (tNot (tTru (eCall m_is_let_here [eVar 2])))) (sRet (eTup [])) (sNext)
noncomputable def u_Search_found_3 (rec : Fn) : Sx := sIf (tOr (tBl (eOp dEq (eVar 1) (eTup []))) (tBl (eOp dEq (eUn dLen (eVar 3)) (eC (.int 8))))) (sRet (eC .non)) (sNext)
noncomputable def u_Search_found_4 (rec : Fn) : Sx := sFor (iSeq (eCall m_choices [eVar 1, eVar 2, eOp dEq (eVar 3) (eTup [])])) (gN 5) ((l_Search_found_1 rec))
noncomputable def u_Search_found_5 (rec : Fn) : Sx := sRet (eC .non)
noncomputable def b_Search_found (rec : Fn) : Sx := sSeq (u_Search_found_1 rec) (sSeq (u_Search_found_2 rec) (sSeq (u_Search_found_3 rec) (sSeq (u_Search_found_4 rec) ((u_Search_found_5 rec)))))
noncomputable def h_Search_found (rec : Fn) : Fn := fnOf 8 (b_Search_found rec)
noncomputable def w_look_rules_1 : Sx := sIf (tOr (tBl (eOp dNe (eUn dLen (eVar 1)) (eC (.int 4)))) (tOr (tBl (eOp dNotIn (eOp dIx (eVar 1) (eC (.int 0))) (eTup [eC (.bl true), eC (.bl false)]))) (tBl (eOp dNotIn (eOp dIx (eVar 1) (eC (.int 2))) (eTup [eC (.str (Str.ofString "say")), eC (.str (Str.ofString "hear")), eC (.str (Str.ofString "both"))]))))) (sRaise 2) (sNext)
noncomputable def w_look_rules_2 : Sx := sIf (tBl (eOp dNe (eOp dIx (eVar 1) (eC (.int 1))) (eC (.str (Str.ofString ""))))) (sExpr (eCall m_look_hearer [eOp dIx (eVar 1) (eC (.int 1))])) (sNext)
noncomputable def w_look_rules_3 : Sx := sExpr (eCall m_look_wish [eOp dIx (eVar 1) (eC (.int 3))])
noncomputable def l_look_rules_1 : Sx := sSeq w_look_rules_1 (sSeq w_look_rules_2 (w_look_rules_3))
noncomputable def u_look_rules_1 : Sx := sIf (tBl (eOp dGt (eUn dLen (eVar 0)) (eC (.int 12)))) (sRaise 2) (sNext)
noncomputable def u_look_rules_2 : Sx := sFor (iSeq (eVar 0)) (gN 1) (l_look_rules_1)
noncomputable def b_look_rules : Sx := sSeq u_look_rules_1 (u_look_rules_2)
noncomputable def m_look_rules : Fn := fnOf 2 b_look_rules
noncomputable def b_law_draw : Sx := sSeq (sExpr (eBm1 isLst dApp (eVar 1) (eC (.int 0)))) (sRet (eOp dMod (eOp dFdv (eCall m_law_mix [eVar 0, eUn dLen (eVar 1)]) (eC (.int 8))) (eVar 2)))
noncomputable def m_law_draw : Fn := fnOf 3 b_law_draw
noncomputable def b_law_pick : Sx := sRet (eOp dIx (eVar 2) (eCall m_law_draw [eVar 0, eVar 1, eUn dLen (eVar 2)]))
noncomputable def m_law_pick : Fn := fnOf 3 b_law_pick
noncomputable def w_law_rules_1 : Sx := sAsg (eOp (dAdd nwF) (eC (.int 1)) (eCall m_law_draw [eVar 0, eVar 1, eC (.int 3)])) (gN 5)
noncomputable def w_law_rules_2 : Sx := sAsg (eLc nwF [10] (iRange (eVar 5)) (gN 10) (Pd.tYes) (eCall m_law_pick [eVar 0, eVar 1, eLst nwF [eC (.str (Str.ofString "a")), eC (.str (Str.ofString "b")), eC (.str (Str.ofString "+")), eC (.str (Str.ofString "+")), eC (.str (Str.ofString "")), eC (.str (Str.ofString "$s"))]])) (gN 6)
noncomputable def w_law_rules_3 : Sx := sIf (tBl (eOp dEq (eCall m_law_draw [eVar 0, eVar 1, eC (.int 3)]) (eC (.int 0)))) (sAsg (eOp (dAdd nwF) (eSl nwF (eVar 6) none (some (eCall m_law_draw [eVar 0, eVar 1, eUn dLen (eVar 6)]))) (eLst nwF [eC (.str (Str.ofString "#"))])) (gN 6)) (sNext)
noncomputable def w_law_rules_4 : Sx := sAsg (eIf (tBl (eOp dNe (eVar 6) (eLst nwF [eC (.str (Str.ofString ""))]))) (eBm1 isStr dJoin (eC (.str (Str.ofString "/"))) (eVar 6)) (eC (.str (Str.ofString "a/b")))) (gN 7)
noncomputable def w_law_rules_5 : Sx := sAsg (eCall m_law_pick [eVar 0, eVar 1, eLst nwF [eC (.str (Str.ofString "say")), eC (.str (Str.ofString "hear")), eC (.str (Str.ofString "both")), eC (.str (Str.ofString "both"))]]) (gN 8)
noncomputable def w_law_rules_6 : Sx := sAsg (eCall m_law_pick [eVar 0, eVar 1, eLst nwF [eC (.str (Str.ofString "")), eC (.str (Str.ofString "")), eC (.str (Str.ofString "h1")), eC (.str (Str.ofString "h2")), eC (.str (Str.ofString "h3"))]]) (gN 9)
noncomputable def w_law_rules_7 : Sx := sExpr (eBm1 isLst dApp (eVar 3) (eTup [eOp dEq (eCall m_law_draw [eVar 0, eVar 1, eC (.int 2)]) (eC (.int 0)), eVar 9, eVar 8, eVar 7]))
noncomputable def l_law_rules_1 : Sx := sSeq w_law_rules_1 (sSeq w_law_rules_2 (sSeq w_law_rules_3 (sSeq w_law_rules_4 (sSeq w_law_rules_5 (sSeq w_law_rules_6 (w_law_rules_7))))))
noncomputable def u_law_rules_1 : Sx := sAsg (eLst nwM []) (gN 3)
noncomputable def u_law_rules_2 : Sx := sFor (iRange (eCall m_law_draw [eVar 0, eVar 1, eOp (dAdd nwF) (eVar 2) (eC (.int 1))])) (gN 4) (l_law_rules_1)
noncomputable def u_law_rules_3 : Sx := sRet (eVar 3)
noncomputable def b_law_rules : Sx := sSeq u_law_rules_1 (sSeq u_law_rules_2 (u_law_rules_3))
noncomputable def m_law_rules : Fn := fnOf 11 b_law_rules
noncomputable def b_fits_levels (rec : Fn) : Sx := sSeq (sIf (tBl (eOp dEq (eSl nwF (eVar 0) none (some (eC (.int 1)))) (eLst nwF [eC (.str (Str.ofString "#"))]))) (sRet (eC (.bl true))) (sNext)) (sSeq (sIf (tOr (tNot (tTru (eVar 0))) (tNot (tTru (eVar 1)))) (sRet (eAnd (eNot (eVar 0)) (eNot (eVar 1)))) (sNext)) (sRet (eAnd (eOp dIn (eOp dIx (eVar 0) (eC (.int 0))) (eTup [eC (.str (Str.ofString "+")), eOp dIx (eVar 1) (eC (.int 0))])) (eCall rec [eSl nwF (eVar 0) (some (eC (.int 1))) none, eSl nwF (eVar 1) (some (eC (.int 1))) none]))))
noncomputable def r_fits_levels : Nat → Fn
  | 0 => fnOf 2 sBad
  | n + 1 => fnOf 2 (b_fits_levels (r_fits_levels n))
noncomputable def m_fits_levels : Fn := r_fits_levels 12
noncomputable def b_fits : Sx := sSeq (sExpr (eCall m_look_wish [eVar 0])) (sSeq (sExpr (eCall m_look_name [eVar 1])) (sSeq (sAsg (eBm1 isStr (dSplit nwF) (eVar 0) (eC (.str (Str.ofString "/")))) (gN 2)) (sRet (eAnd (eNot (eAnd (eCall m_is_wide [eOp dIx (eVar 2) (eC (.int 0))]) (eBm1 isStr dStarts (eVar 1) (eC (.str (Str.ofString "$")))))) (eCall m_fits_levels [eVar 2, eBm1 isStr (dSplit nwF) (eVar 1) (eC (.str (Str.ofString "/")))])))))
noncomputable def m_fits : Fn := fnOf 3 b_fits
noncomputable def l_may_say_1 : Sx := sIf (tTru (eCall m_fits [eVar 4, eVar 2])) (sRet (eVar 3)) (sNext)
noncomputable def u_may_say_1 : Sx := sExpr (eCall m_look_rules [eVar 0])
noncomputable def u_may_say_2 : Sx := sExpr (eCall m_look_hearer [eVar 1])
noncomputable def u_may_say_3 : Sx := sExpr (eCall m_look_name [eVar 2])
noncomputable def u_may_say_4 : Sx := sFor (iSeq (eCall m_rules_of [eVar 0, eVar 1, eC (.str (Str.ofString "say"))])) (gT [3, 4]) (l_may_say_1)
noncomputable def u_may_say_5 : Sx := sRet (eC (.bl true))
noncomputable def b_may_say : Sx := sSeq u_may_say_1 (sSeq u_may_say_2 (sSeq u_may_say_3 (sSeq u_may_say_4 (u_may_say_5))))
noncomputable def m_may_say : Fn := fnOf 5 b_may_say
noncomputable def u_Search_go_1 (rec : Fn) : Sx := sAsg (eTup [eVar 1, eUn dTuple (eVar 2), eUn dLen (eVar 3), eOp dEq (eVar 3) (eTup [eC (.str (Str.ofString ""))])]) (gN 4)
noncomputable def u_Search_go_2 (rec : Fn) : Sx := sIf (tBl (eOp dNnotIn (eVar 4) (eFld 0 0 (eVar 0)))) (sNput (eFld 0 0 (eVar 0)) (eVar 4) (eMeth 0 (h_Search_found rec) (eVar 0) [eVar 1, eVar 2, eVar 3])) (sNext)
noncomputable def u_Search_go_3 (rec : Fn) : Sx := sRet (eOp dNget (eFld 0 0 (eVar 0)) (eVar 4))
noncomputable def b_Search_go (rec : Fn) : Sx := sSeq (u_Search_go_1 rec) (sSeq (u_Search_go_2 rec) ((u_Search_go_3 rec)))
noncomputable def r_Search_go : Nat → Fn
  | 0 => fnOf 5 sBad
  | n + 1 => fnOf 5 (b_Search_go (r_Search_go n))
noncomputable def m_Search_go : Fn := r_Search_go 12
noncomputable def u_may_hear_1 : Sx := sExpr (eCall m_look_rules [eVar 0])
noncomputable def u_may_hear_2 : Sx := sExpr (eCall m_look_hearer [eVar 1])
noncomputable def u_may_hear_3 : Sx := sExpr (eCall m_look_wish [eVar 2])
noncomputable def u_may_hear_4 : Sx := sAsg (eLc nwF [5, 6] (iSeq (eCall m_rules_of [eVar 0, eVar 1, eC (.str (Str.ofString "hear"))])) (gT [5, 6]) (Pd.tYes) (eTup [eVar 5, eUn dTuple (eBm1 isStr (dSplit nwF) (eVar 6) (eC (.str (Str.ofString "/"))))])) (gN 3)
noncomputable def u_may_hear_5 : Sx := sAsg (eMeth 0 m_Search_go (eMake 0 m_Search_init []) [eUn dTuple (eBm1 isStr (dSplit nwF) (eVar 2) (eC (.str (Str.ofString "/")))), eVar 3, eTup []]) (gN 4)
noncomputable def u_may_hear_6 : Sx := sRet (eIf (tBl (eUn dIsN (eVar 4))) (eC .non) (eBm1 isStr dJoin (eC (.str (Str.ofString "/"))) (eVar 4)))
noncomputable def b_may_hear : Sx := sSeq u_may_hear_1 (sSeq u_may_hear_2 (sSeq u_may_hear_3 (sSeq u_may_hear_4 (sSeq u_may_hear_5 (u_may_hear_6)))))
noncomputable def m_may_hear : Fn := fnOf 7 b_may_hear
noncomputable def u_law_told_1 : Sx := sAsg (eC .non) (gN 4)
noncomputable def u_law_told_2 : Sx := sAsg (eC .non) (gN 5)
noncomputable def u_law_told_3 : Sx := sTryH 4 6 [1, 2, 3, 4, 5, 6] (sAsg (eIf (tBl (eOp dEq (eVar 0) (eC (.int 0)))) (eCall m_may_say [eVar 1, eVar 2, eVar 3]) (eCall m_may_hear [eVar 1, eVar 2, eVar 3])) (gN 5))
noncomputable def u_law_told_4 : Sx := sRet (eIf (tBl (eUn dIsN (eVar 4))) (eVar 5) (eCall m_law_refusal [eVar 4]))
noncomputable def b_law_told : Sx := sSeq u_law_told_1 (sSeq u_law_told_2 (sSeq u_law_told_3 (u_law_told_4)))
noncomputable def m_law_told : Fn := fnOf 7 b_law_told
noncomputable def u_law_good_1 : Sx := sAsg (eCall m_law_told [eC (.int 1), eVar 0, eVar 1, eVar 2]) (gN 3)
noncomputable def u_law_good_2 : Sx := sIf (tBl (eUn dIsN (eVar 3))) (sSeq (sAsg (eLc nwF [5] (iSeq (eCall m_law_names [])) (gN 5) (tTru (eCall m_law_fits [eVar 2, eVar 5])) (eVar 5)) (gN 4)) (sRet (eUn dAll (eLc nwF [5] (iSeq (eVar 4)) (gN 5) (Pd.tYes) (eCall m_law_lets [eVar 0, eVar 1, eC (.str (Str.ofString "hear")), eVar 5]))))) (sNext)
noncomputable def u_law_good_3 : Sx := sIf (tOr (tNot (tTru (eUn (dIsi "str") (eVar 3)))) (tOr (tNot (tTru (eCall m_law_is_name [eVar 3]))) (tNot (tTru (eCall m_law_fits [eVar 2, eVar 3]))))) (sRet (eC (.bl false))) (sNext)
noncomputable def u_law_good_4 : Sx := sRet (eNot (eCall m_law_lets [eVar 0, eVar 1, eC (.str (Str.ofString "hear")), eVar 3]))
noncomputable def b_law_good : Sx := sSeq u_law_good_1 (sSeq u_law_good_2 (sSeq u_law_good_3 (u_law_good_4)))
noncomputable def m_law_good : Fn := fnOf 6 b_law_good
noncomputable def w_law_1 : Sx := sAsg (eOp dIx (eVar 6) (eCall m_law_draw [eVar 0, eVar 1, eUn dLen (eVar 6)])) (gN 8)
noncomputable def w_law_2 : Sx := sAsg (eCall m_law_told [eC (.int 0), eVar 2, eVar 3, eVar 8]) (gN 9)
noncomputable def w_law_3 : Sx := sIf (tOr (tNot (tTru (eUn (dIsi "bool") (eVar 9)))) (tBl (eOp dNe (eVar 9) (eCall m_law_lets [eVar 2, eVar 3, eC (.str (Str.ofString "say")), eVar 8])))) (sRet (eC (.bl false))) (sNext)
noncomputable def l_law_1 : Sx := sSeq w_law_1 (sSeq w_law_2 (w_law_3))
noncomputable def u_law_1 : Sx := sAsg (eLst nwM []) (gN 1)
noncomputable def u_law_2 : Sx := sAsg (eCall m_law_rules [eVar 0, eVar 1, eC (.int 6)]) (gN 2)
noncomputable def u_law_3 : Sx := sAsg (eCall m_law_pick [eVar 0, eVar 1, eLst nwF [eC (.str (Str.ofString "h1")), eC (.str (Str.ofString "h2")), eC (.str (Str.ofString "h4"))]]) (gN 3)
noncomputable def u_law_4 : Sx := sAsg (eCall m_law_rules [eVar 0, eVar 1, eC (.int 1)]) (gN 4)
noncomputable def u_law_5 : Sx := sAsg (eIf (tTru (eVar 4)) (eOp dIx (eOp dIx (eVar 4) (eC (.int 0))) (eC (.int 3))) (eCall m_law_pick [eVar 0, eVar 1, eLst nwF [eC (.str (Str.ofString "#")), eC (.str (Str.ofString "+")), eC (.str (Str.ofString "+/#")), eC (.str (Str.ofString "a/#")), eC (.str (Str.ofString "/#"))]])) (gN 4)
noncomputable def u_law_6 : Sx := sAsg (eUn (dList nwF) (eVar 2)) (gN 5)
noncomputable def u_law_7 : Sx := sIf (tOr (tNot (tTru (eCall m_law_good [eVar 5, eVar 3, eVar 4]))) (tBl (eOp dNe (eVar 5) (eVar 2)))) (sRet (eC (.bl false))) (sNext)
noncomputable def u_law_8 : Sx := sAsg (eCall m_law_names []) (gN 6)
noncomputable def u_law_9 : Sx := sFor (iRange (eC (.int 4))) (gN 7) (l_law_1)
noncomputable def u_law_10 : Sx := sAsg (eLst nwF [eTup [eC (.bl true), eC (.str (Str.ofString "")), eC (.str (Str.ofString "none")), eC (.str (Str.ofString "#"))], eTup [eC (.bl true), eC (.str (Str.ofString "H")), eC (.str (Str.ofString "say")), eC (.str (Str.ofString "#"))], eTup [eC (.bl true), eC (.str (Str.ofString "")), eC (.str (Str.ofString "say")), eC (.str (Str.ofString "a#"))], eTup [eC (.bl true), eC (.str (Str.ofString "")), eC (.str (Str.ofString "say"))]]) (gN 10)
noncomputable def u_law_11 : Sx := sAsg (eOp (dAdd nwF) (eVar 2) (eLst nwF [eOp dIx (eVar 10) (eCall m_law_draw [eVar 0, eVar 1, eC (.int 4)])])) (gN 10)
noncomputable def u_law_12 : Sx := sIf (tBl (eOp dEq (eCall m_law_draw [eVar 0, eVar 1, eC (.int 3)]) (eC (.int 0)))) (sAsg (eOp (dRep nwF) (eLst nwF [eTup [eC (.bl true), eC (.str (Str.ofString "")), eC (.str (Str.ofString "both")), eC (.str (Str.ofString "#"))]]) (eC (.int 13))) (gN 10)) (sNext)
noncomputable def u_law_13 : Sx := sIf (tBl (eOp dNe (eLc nwF [11] (iRange (eC (.int 2))) (gN 11) (Pd.tYes) (eCall m_law_told [eVar 11, eVar 10, eVar 3, eC (.str (Str.ofString "a"))])) (eOp (dRep nwF) (eLst nwF [eTup [eC (.str (Str.ofString "refused")), eC (.str (Str.ofString "name"))]]) (eC (.int 2))))) (sRet (eC (.bl false))) (sNext)
noncomputable def u_law_14 : Sx := sIf (tBl (eOp dNe (eLc nwF [11] (iRange (eC (.int 2))) (gN 11) (Pd.tYes) (eCall m_law_told [eVar 11, eVar 2, eC (.str (Str.ofString "")), eC (.str (Str.ofString "a"))])) (eOp (dRep nwF) (eLst nwF [eTup [eC (.str (Str.ofString "refused")), eC (.str (Str.ofString "name"))]]) (eC (.int 2))))) (sRet (eC (.bl false))) (sNext)
noncomputable def u_law_15 : Sx := sRet (eOp dEq (eLc nwF [11] (iRange (eC (.int 2))) (gN 11) (Pd.tYes) (eCall m_law_told [eVar 11, eVar 2, eC (.str (Str.ofString "h1")), eOp dIx (eLst nwF [eC (.str (Str.ofString "a/+")), eC (.str (Str.ofString "a+"))]) (eVar 11)])) (eOp (dRep nwF) (eLst nwF [eTup [eC (.str (Str.ofString "refused")), eC (.str (Str.ofString "name"))]]) (eC (.int 2))))
noncomputable def b_law : Sx := sSeq u_law_1 (sSeq u_law_2 (sSeq u_law_3 (sSeq u_law_4 (sSeq u_law_5 (sSeq u_law_6 (sSeq u_law_7 (sSeq u_law_8 (sSeq u_law_9 (sSeq u_law_10 (sSeq u_law_11 (sSeq u_law_12 (sSeq u_law_13 (sSeq u_law_14 (u_law_15))))))))))))))
noncomputable def m_law : Fn := fnOf 12 b_law
theorem m_Search_init_non : ∀ ds s d s', m_Search_init ds s = .ok d s' → d = .non := noRt_fn (noRt_setF)
end Tx
namespace Tx
open PySem L2 Pd
section
variable {P : Program} {w : World} {K : PySem.W.Frag} {mg : Str → Option Value} {base : Heap} {A : Ad}
theorem d_is_level (T : Txt w K mg A) : Df true P w K mg base J 1 1 A.f_is_level m_is_level := by
  obtain ⟨fd, F, hb⟩ := T.d_is_level
  exact df_of F sc_is_level hb fun cdv A outer s H E hr =>
    (ss_cons (ss_if (ts_cmp (c_gt) (es_b1 (b_len) rfl T.n_len (by decide +kernel) (es_var (pv 0))) (es_gint rfl T.c_MOST_SIGNS) (nomark _)) (ss_one (ss_ret (es_bl))) (ss_nil))
      (ss_one (ss_ret (es_b1 (b_all rfl) rfl T.n_all (by decide +kernel) (es_lc (own := [("sign", 1)]) isF rfl sc_is_level.nd (is_seq (es_var (pv 0))) (blkOk_by (own := [("sign", 1)]) (N := ["level", "sign"]) (sc := defScope s_is_level) (by decide +kernel)) (by decide) (fun _ _ _ _ _ => gs_name (pg_name (i := 1) sc_is_level.nd rfl (by first | exact Or.inl rfl | exact Or.inr rfl))) (fun _ _ _ _ _ => tts_nil) (fun _ _ _ _ _ => es_and (es_leLt (es_int) (es_b1 (b_ord) rfl T.n_ord (by decide +kernel) (es_var (pv 1))) (es_int)) (es_and (es_cmp (c_ne hr.units) (es_b1 (b_ord) rfl T.n_ord (by decide +kernel) (es_var (pv 1))) (es_int) (nomark _)) (es_one (es_cmp (c_notIn hr.u65) (es_var (pv 1)) (es_str))))))))))
theorem d_look_hearer (T : Txt w K mg A) : Df true P w K mg base J 1 1 A.f_look_hearer m_look_hearer := by
  obtain ⟨fd, F, hb⟩ := T.d_look_hearer
  exact df_of F sc_look_hearer hb fun cdv A outer s H E hr =>
    (ss_one (ss_if (ts_w (ws_or (ts_not (ts_leLe (es_int) (es_b1 (b_len) rfl T.n_len (by decide +kernel) (es_var (pv 0))) (es_gint rfl T.c_MOST_SIGNS))) (ws_or1 (ts_not (ts_tru (es_b1 (b_all rfl) rfl T.n_all (by decide +kernel) (es_lc (own := [("sign", 1)]) isF rfl sc_look_hearer.nd (is_seq (es_var (pv 0))) (blkOk_by (own := [("sign", 1)]) (N := ["hearer", "sign"]) (sc := defScope s_look_hearer) (by decide +kernel)) (by decide) (fun _ _ _ _ _ => gs_name (pg_name (i := 1) sc_look_hearer.nd rfl (by first | exact Or.inl rfl | exact Or.inr rfl))) (fun _ _ _ _ _ => tts_nil) (fun _ _ _ _ _ => es_cmp (c_in hr.u65) (es_var (pv 1)) (es_gstr rfl T.c_SMALL))))))))) (ss_one (ss_raise (z := true) (c := 2) rfl rfl ((tks_of rfl rfl rfl rfl)) PySem.F.excBase_ValueError T.x_BadName T.gc_BadName T.kc_BadName (raises_own T.b_BadName T.t_BadName) rfl)) (ss_nil)))
theorem d_is_wide (T : Txt w K mg A) : Df true P w K mg base J 1 1 A.f_is_wide m_is_wide := by
  obtain ⟨fd, F, hb⟩ := T.d_is_wide
  exact df_of F sc_is_wide hb fun cdv A outer s H E hr =>
    (ss_one (ss_ret (es_cmp (c_in hr.u65) (es_var (pv 0)) (es_tup (as_cons (es_str) (as_cons (es_str) (as_nil)))))))
theorem d_rules_of (T : Txt w K mg A) : Df true P w K mg base J 1 3 A.f_rules_of m_rules_of := by
  obtain ⟨fd, F, hb⟩ := T.d_rules_of
  exact df_of F sc_rules_of hb fun cdv A outer s H E hr =>
    (ss_one (ss_ret (es_lc (own := [("rule", 3)]) isF rfl sc_rules_of.nd (is_seq (es_var (pv 0))) (blkOk_by (own := [("rule", 3)]) (N := ["rules", "hearer", "word", "rule"]) (sc := defScope s_rules_of) (by decide +kernel)) (by decide) (fun _ _ _ _ _ => gs_name (pg_name (i := 3) sc_rules_of.nd rfl (by first | exact Or.inl rfl | exact Or.inr rfl))) (fun _ _ _ _ _ => tts_one (ts_w (ws_and (ts_cmp (c_in hr.u65) (es_ix (es_var (pv 3)) (es_int)) (es_tup (as_cons (es_str) (as_cons (es_var (pv 1)) (as_nil))))) (ws_and1 (ts_cmp (c_in hr.u65) (es_ix (es_var (pv 3)) (es_int)) (es_tup (as_cons (es_var (pv 2)) (as_cons (es_str) (as_nil))))))))) (fun _ _ _ _ _ => es_tup (as_cons (es_ix (es_var (pv 3)) (es_int)) (as_cons (es_ix (es_var (pv 3)) (es_int)) (as_nil)))))))
theorem d_is_let_here (T : Txt w K mg A) : Df true P w K mg base J 1 1 A.f_is_let_here m_is_let_here := by
  obtain ⟨fd, F, hb⟩ := T.d_is_let_here
  exact df_of F sc_is_let_here hb fun cdv A outer s H E hr =>
    (ss_cons (ss_for (passes_of rfl) rfl (is_seq (es_var (pv 0))) (gs_tup rfl (gss_cons (pg_name (i := 1) sc_is_let_here.nd rfl (by first | exact Or.inl rfl | exact Or.inr rfl)) (gss_cons (pg_name (i := 2) sc_is_let_here.nd rfl (by first | exact Or.inl rfl | exact Or.inr rfl)) (gss_nil)))) (ss_one (ss_if (ts_w (ws_or (ts_not (ts_tru (es_var (pv 2)))) (ws_or1 (ts_cmp (c_eq hr.units) (es_var (pv 2)) (es_tup (as_cons (es_str) (as_nil))) (nomark _))))) (ss_one (ss_ret (es_var (pv 1)))) (ss_nil))))
      (ss_one (ss_ret (es_bl))))
theorem d_Search_init (T : Txt w K mg A) : Df true P w K mg base J 1 1 A.f_Search_init m_Search_init := by
  obtain ⟨fd, F, hb⟩ := T.d_Search_init
  exact df_of F sc_Search_init hb fun cdv A outer s H E hr =>
    (ss_one (ss_setF T.a_Search_known (es_var (pv 0)) (es_dnewN)))
theorem d_law_cell (T : Txt w K mg A) : Df true P w K mg base J 1 2 A.f_law_cell m_law_cell := by
  obtain ⟨fd, F, hb⟩ := T.d_law_cell
  exact df_of F sc_law_cell hb fun cdv A outer s H E hr =>
    (ss_cons (ss_if (ts_tru (es_var (pv 0))) (ss_one (ss_ret (es_ix (es_var (pv 0)) (es_mod (es_var (pv 1)) (es_b1 (b_len) rfl T.n_len (by decide +kernel) (es_var (pv 0))))))) (ss_nil))
      (ss_one (ss_ret (es_int))))
theorem d_law_refusal (T : Txt w K mg A) : Df true P w K mg base J 1 1 A.f_law_refusal m_law_refusal := by
  obtain ⟨fd, F, hb⟩ := T.d_law_refusal
  exact df_of F sc_law_refusal hb fun cdv A outer s H E hr =>
    (ss_cons (ss_if (ts_isN (es_var (pv 0))) (ss_one (ss_ret (es_tup (as_cons (es_str) (as_nil))))) (ss_nil))
      (ss_cons (ss_asg (es_lst isF (as_cons (es_isx T.ix_BadName rfl T.n_isinstance rfl T.gc_BadName (es_var (pv 0))) (as_cons (es_isx T.ix_BadPacket rfl T.n_isinstance rfl T.gc_BadPacket (es_var (pv 0))) (as_cons (es_isx T.ix_BadBytes rfl T.n_isinstance rfl T.gc_BadBytes (es_var (pv 0))) (as_nil))))) (gs_name (pg_name (i := 1) sc_law_refusal.nd rfl (by first | exact Or.inl rfl | exact Or.inr rfl))))
      (ss_cons (ss_asg (es_add isF (es_var (pv 1)) (es_lst isF (as_cons (es_isx T.ix_BadLine rfl T.n_isinstance rfl T.gc_BadLine (es_var (pv 0))) (as_cons (es_isx T.ix_BadText rfl T.n_isinstance rfl T.gc_BadText (es_var (pv 0))) (as_nil))))) (gs_name (pg_name (i := 1) sc_law_refusal.nd rfl (by first | exact Or.inl rfl | exact Or.inr rfl))))
      (ss_cons (ss_if (ts_w (ws_or (ts_cmp (c_ne hr.units) (es_bm1 m_count (es_var (pv 1)) (es_bl)) (es_int) (nomark _)) (ws_or1 (ts_not (ts_tru (es_isxT T.ix_ValueError rfl T.n_isinstance rfl T.n_ValueError (by decide +kernel) (es_var (pv 0)))))))) (ss_one (ss_ret (es_tup (as_cons (es_str) (as_nil))))) (ss_nil))
      (ss_one (ss_ret (es_tup (as_cons (es_str) (as_cons (es_ix (es_lst isF (as_cons (es_str) (as_cons (es_str) (as_cons (es_str) (as_cons (es_str) (as_cons (es_str) (as_nil))))))) (es_bm1 m_index (es_var (pv 1)) (es_bl))) (as_nil))))))))))
theorem d_law_is_level (T : Txt w K mg A) : Df true P w K mg base J 1 1 A.f_law_is_level m_law_is_level := by
  obtain ⟨fd, F, hb⟩ := T.d_law_is_level
  exact df_of F sc_law_is_level hb fun cdv A outer s H E hr =>
    (ss_cons (ss_setLc (i := 1) (own := [("sign", 2)]) isF rfl sc_law_is_level.nd rfl rfl (sw_true rfl rfl rfl (by decide +kernel)) (is_seq (es_var (pv 0))) (blkOk_by (own := [("sign", 2)]) (N := ["level", "codes", "sign", "one"]) (sc := defScope s_law_is_level) (by decide +kernel)) (by decide) (fun _ _ _ _ _ => gs_name (pg_name (i := 2) sc_law_is_level.nd rfl (by first | exact Or.inl rfl | exact Or.inr rfl))) (fun _ _ _ _ _ => tts_nil) (fun _ _ _ _ _ => es_b1 (b_ord) rfl T.n_ord (by decide +kernel) (es_var (pv 2))))
      (ss_one (ss_ret (es_and (es_cmp (c_lt) (es_b1 (b_len) rfl T.n_len (by decide +kernel) (es_var (pv 0))) (es_int) (nomark _)) (es_one (es_b1 (b_all rfl) rfl T.n_all (by decide +kernel) (es_lc (own := [("one", 3)]) isF rfl sc_law_is_level.nd (is_seq (es_var (pv 1))) (blkOk_by (own := [("one", 3)]) (N := ["level", "codes", "sign", "one"]) (sc := defScope s_law_is_level) (by decide +kernel)) (by decide) (fun _ _ _ _ _ => gs_name (pg_name (i := 3) sc_law_is_level.nd rfl (by first | exact Or.inl rfl | exact Or.inr rfl))) (fun _ _ _ _ _ => tts_nil) (fun _ _ _ _ _ => es_and (es_leLt (es_int) (es_var (pv 3)) (es_int)) (es_one (es_cmp (c_notIn hr.u65) (es_var (pv 3)) (es_tup (as_cons (es_int) (as_cons (es_int) (as_cons (es_int) (as_nil)))))))))))))))
theorem d_law_fits (T : Txt w K mg A) : Df true P w K mg base J 1 2 A.f_law_fits m_law_fits := by
  obtain ⟨fd, F, hb⟩ := T.d_law_fits
  exact df_of F sc_law_fits hb fun cdv A outer s H E hr =>
    (ss_cons (ss_asg (es_bm1 (m_split isF) (es_var (pv 0)) (es_str)) (gs_name (pg_name (i := 2) sc_law_fits.nd rfl (by first | exact Or.inl rfl | exact Or.inr rfl))))
      (ss_cons (ss_asg (es_bm1 (m_split isF) (es_var (pv 1)) (es_str)) (gs_name (pg_name (i := 3) sc_law_fits.nd rfl (by first | exact Or.inl rfl | exact Or.inr rfl))))
      (ss_cons (ss_if (ts_w (ws_and (ts_cmp (c_in hr.u65) (es_ix (es_var (pv 2)) (es_int)) (es_tup (as_cons (es_str) (as_cons (es_str) (as_nil))))) (ws_and1 (ts_cmp (c_eq hr.units) (es_sl isF (es_ix (es_var (pv 3)) (es_int)) (os_none) (os_some (es_int))) (es_str) (nomark _))))) (ss_one (ss_ret (es_bl))) (ss_nil))
      (ss_cons (ss_if (ts_cmp (c_eq hr.units) (es_ix (es_var (pv 2)) (es_neg (es_int))) (es_str) (nomark _)) (ss_cons (ss_asg (es_sl isF (es_var (pv 2)) (os_none) (os_some (es_neg (es_int)))) (gs_name (pg_name (i := 2) sc_law_fits.nd rfl (by first | exact Or.inl rfl | exact Or.inr rfl))))
      (ss_cons (ss_if (ts_cmp (c_lt) (es_b1 (b_len) rfl T.n_len (by decide +kernel) (es_var (pv 3))) (es_b1 (b_len) rfl T.n_len (by decide +kernel) (es_var (pv 2))) (nomark _)) (ss_one (ss_ret (es_bl))) (ss_nil))
      (ss_one (ss_asg (es_sl isF (es_var (pv 3)) (os_none) (os_some (es_b1 (b_len) rfl T.n_len (by decide +kernel) (es_var (pv 2))))) (gs_name (pg_name (i := 3) sc_law_fits.nd rfl (by first | exact Or.inl rfl | exact Or.inr rfl))))))) (ss_nil))
      (ss_cons (ss_if (ts_cmp (c_ne hr.units) (es_b1 (b_len) rfl T.n_len (by decide +kernel) (es_var (pv 2))) (es_b1 (b_len) rfl T.n_len (by decide +kernel) (es_var (pv 3))) (nomark _)) (ss_one (ss_ret (es_bl))) (ss_nil))
      (ss_one (ss_ret (es_b1 (b_all rfl) rfl T.n_all (by decide +kernel) (es_lc (own := [("k", 4)]) isF rfl sc_law_fits.nd (is_range rfl T.n_range (es_b1 (b_len) rfl T.n_len (by decide +kernel) (es_var (pv 2)))) (blkOk_by (own := [("k", 4)]) (N := ["wish", "name", "wished", "levels", "k"]) (sc := defScope s_law_fits) (by decide +kernel)) (by decide) (fun _ _ _ _ _ => gs_name (pg_name (i := 4) sc_law_fits.nd rfl (by first | exact Or.inl rfl | exact Or.inr rfl))) (fun _ _ _ _ _ => tts_nil) (fun _ _ _ _ _ => es_cmp (c_in hr.u65) (es_ix (es_var (pv 2)) (es_var (pv 4))) (es_tup (as_cons (es_str) (as_cons (es_ix (es_var (pv 3)) (es_var (pv 4))) (as_nil))))))))))))))
theorem d_law_names (T : Txt w K mg A) : Df true P w K mg base J 1 0 A.f_law_names m_law_names := by
  obtain ⟨fd, F, hb⟩ := T.d_law_names
  exact df_of F sc_law_names hb fun cdv A outer s H E hr =>
    (ss_cons (ss_asg (es_lst isF (as_nil)) (gs_name (pg_name (i := 0) sc_law_names.nd rfl (by first | exact Or.inl rfl | exact Or.inr rfl))))
      (ss_cons (ss_asg (es_lst isF (as_cons (es_str) (as_nil))) (gs_name (pg_name (i := 1) sc_law_names.nd rfl (by first | exact Or.inl rfl | exact Or.inr rfl))))
      (ss_cons (ss_for (passes_of rfl) rfl (is_range rfl T.n_range (es_int)) (gs_name (pg_name (i := 2) sc_law_names.nd rfl (by first | exact Or.inl rfl | exact Or.inr rfl))) (ss_cons (ss_asg (es_lst isF (as_nil)) (gs_name (pg_name (i := 3) sc_law_names.nd rfl (by first | exact Or.inl rfl | exact Or.inr rfl))))
      (ss_cons (ss_for (passes_of rfl) rfl (is_seq (es_var (pv 1))) (gs_name (pg_name (i := 4) sc_law_names.nd rfl (by first | exact Or.inl rfl | exact Or.inr rfl))) (ss_one (ss_asg (es_add isF (es_var (pv 3)) (es_lc (own := [("level", 5)]) isF rfl sc_law_names.nd (is_seq (es_lst isF (as_cons (es_str) (as_cons (es_str) (as_cons (es_str) (as_cons (es_str) (as_cons (es_str) (as_nil)))))))) (blkOk_by (own := [("level", 5)]) (N := ["found", "rows", "k", "longer", "row", "level", "name"]) (sc := defScope s_law_names) (by decide +kernel)) (by decide) (fun _ _ _ _ _ => gs_name (pg_name (i := 5) sc_law_names.nd rfl (by first | exact Or.inl rfl | exact Or.inr rfl))) (fun _ _ _ _ _ => tts_nil) (fun _ _ _ _ _ => es_add isF (es_add isF (es_var (pv 4)) (es_if (ts_cmp (c_gt) (es_var (pv 2)) (es_int) (nomark _)) (es_str) (es_str))) (es_var (pv 5))))) (gs_name (pg_name (i := 3) sc_law_names.nd rfl (by first | exact Or.inl rfl | exact Or.inr rfl))))))
      (ss_cons (ss_asg (es_var (pv 3)) (gs_name (pg_name (i := 1) sc_law_names.nd rfl (by first | exact Or.inl rfl | exact Or.inr rfl))))
      (ss_one (ss_asg (es_add isF (es_var (pv 0)) (es_var (pv 1))) (gs_name (pg_name (i := 0) sc_law_names.nd rfl (by first | exact Or.inl rfl | exact Or.inr rfl)))))))))
      (ss_one (ss_ret (es_lc (own := [("name", 6)]) isF rfl sc_law_names.nd (is_seq (es_var (pv 0))) (blkOk_by (own := [("name", 6)]) (N := ["found", "rows", "k", "longer", "row", "level", "name"]) (sc := defScope s_law_names) (by decide +kernel)) (by decide) (fun _ _ _ _ _ => gs_name (pg_name (i := 6) sc_law_names.nd rfl (by first | exact Or.inl rfl | exact Or.inr rfl))) (fun _ _ _ _ _ => tts_one (ts_cmp (c_ne hr.units) (es_var (pv 6)) (es_str) (nomark _))) (fun _ _ _ _ _ => es_var (pv 6))))))))
theorem d_look_name (T : Txt w K mg A) : Df true P w K mg base J 2 1 A.f_look_name m_look_name := by
  obtain ⟨fd, F, hb⟩ := T.d_look_name
  exact df_of F sc_look_name hb fun cdv A outer s H E hr =>
    (ss_cons (ss_asg (es_bm1 (m_split isF) (es_var (pv 0)) (es_str)) (gs_name (pg_name (i := 1) sc_look_name.nd rfl (by first | exact Or.inl rfl | exact Or.inr rfl))))
      (ss_one (ss_if (ts_w (ws_or (ts_cmp (c_eq hr.units) (es_var (pv 0)) (es_str) (nomark _)) (ws_or (ts_cmp (c_gt) (es_b1 (b_len) rfl T.n_len (by decide +kernel) (es_var (pv 1))) (es_gint rfl T.c_MOST_LEVELS) (nomark _)) (ws_or1 (ts_not (ts_tru (es_b1 (b_all rfl) rfl T.n_all (by decide +kernel) (es_lc (own := [("level", 2)]) isF rfl sc_look_name.nd (is_seq (es_var (pv 1))) (blkOk_by (own := [("level", 2)]) (N := ["name", "levels", "level"]) (sc := defScope s_look_name) (by decide +kernel)) (by decide) (fun _ _ _ _ _ => gs_name (pg_name (i := 2) sc_look_name.nd rfl (by first | exact Or.inl rfl | exact Or.inr rfl))) (fun _ _ _ _ _ => tts_nil) (fun _ _ _ _ _ => es_call tks0 (d_is_level T) (hr.mono (by omega)) rfl T.g_is_level T.k_is_level (as_cons (es_var (pv 2)) (as_nil))))))))))) (ss_one (ss_raise (z := true) (c := 2) rfl rfl ((tks_of rfl rfl rfl rfl)) PySem.F.excBase_ValueError T.x_BadName T.gc_BadName T.kc_BadName (raises_own T.b_BadName T.t_BadName) rfl)) (ss_nil))))
theorem d_look_wish (T : Txt w K mg A) : Df true P w K mg base J 2 1 A.f_look_wish m_look_wish := by
  obtain ⟨fd, F, hb⟩ := T.d_look_wish
  exact df_of F sc_look_wish hb fun cdv A outer s H E hr =>
    (ss_cons (ss_asg (es_bm1 (m_split isF) (es_var (pv 0)) (es_str)) (gs_name (pg_name (i := 1) sc_look_wish.nd rfl (by first | exact Or.inl rfl | exact Or.inr rfl))))
      (ss_cons (ss_asg (es_if (ts_cmp (c_eq hr.units) (es_ix (es_var (pv 1)) (es_neg (es_int))) (es_str) (nomark _)) (es_sl isF (es_var (pv 1)) (os_none) (os_some (es_neg (es_int)))) (es_var (pv 1))) (gs_name (pg_name (i := 2) sc_look_wish.nd rfl (by first | exact Or.inl rfl | exact Or.inr rfl))))
      (ss_one (ss_if (ts_w (ws_or (ts_cmp (c_eq hr.units) (es_var (pv 0)) (es_str) (nomark _)) (ws_or (ts_cmp (c_gt) (es_b1 (b_len) rfl T.n_len (by decide +kernel) (es_var (pv 1))) (es_gint rfl T.c_MOST_LEVELS) (nomark _)) (ws_or1 (ts_not (ts_tru (es_b1 (b_all rfl) rfl T.n_all (by decide +kernel) (es_lc (own := [("level", 3)]) isF rfl sc_look_wish.nd (is_seq (es_var (pv 2))) (blkOk_by (own := [("level", 3)]) (N := ["wish", "levels", "plain", "level"]) (sc := defScope s_look_wish) (by decide +kernel)) (by decide) (fun _ _ _ _ _ => gs_name (pg_name (i := 3) sc_look_wish.nd rfl (by first | exact Or.inl rfl | exact Or.inr rfl))) (fun _ _ _ _ _ => tts_nil) (fun _ _ _ _ _ => es_or (es_cmp (c_eq hr.units) (es_var (pv 3)) (es_str) (nomark _)) (es_one (es_call tks0 (d_is_level T) (hr.mono (by omega)) rfl T.g_is_level T.k_is_level (as_cons (es_var (pv 3)) (as_nil))))))))))))) (ss_one (ss_raise (z := true) (c := 2) rfl rfl ((tks_of rfl rfl rfl rfl)) PySem.F.excBase_ValueError T.x_BadName T.gc_BadName T.kc_BadName (raises_own T.b_BadName T.t_BadName) rfl)) (ss_nil)))))
theorem d_stepped (T : Txt w K mg A) : Df true P w K mg base J 2 3 A.f_stepped m_stepped := by
  obtain ⟨fd, F, hb⟩ := T.d_stepped
  exact df_of F sc_stepped hb fun cdv A outer s H E hr =>
    (ss_cons (ss_asg (es_lst isM (as_nil)) (gs_name (pg_name (i := 3) sc_stepped.nd rfl (by first | exact Or.inl rfl | exact Or.inr rfl))))
      (ss_cons (ss_for (passes_of rfl) rfl (is_seq (es_var (pv 0))) (gs_tup rfl (gss_cons (pg_name (i := 4) sc_stepped.nd rfl (by first | exact Or.inl rfl | exact Or.inr rfl)) (gss_cons (pg_name (i := 5) sc_stepped.nd rfl (by first | exact Or.inl rfl | exact Or.inr rfl)) (gss_nil)))) (ss_one (ss_if (ts_w (ws_and (ts_tru (es_sl isF (es_var (pv 5)) (os_none) (os_some (es_int)))) (ws_and1 (ts_not (ts_w (ws_and (ts_tru (es_var (pv 2))) (ws_and (ts_tru (es_call (tks_of rfl rfl rfl rfl) (d_is_wide T) (hr.mono (by omega)) rfl T.g_is_wide T.k_is_wide (as_cons (es_ix (es_var (pv 5)) (es_int)) (as_nil)))) (ws_and1 (ts_tru (es_bm1 m_starts (es_var (pv 1)) (es_str))))))))))) (ss_one (ss_if (ts_cmp (c_eq hr.units) (es_ix (es_var (pv 5)) (es_int)) (es_str) (nomark _)) (ss_one (ss_expr (es_bm1 m_append (es_var (pv 3)) (es_tup (as_cons (es_var (pv 4)) (as_cons (es_var (pv 5)) (as_nil))))))) (ss_one (ss_if (ts_cmp (c_in hr.u65) (es_ix (es_var (pv 5)) (es_int)) (es_tup (as_cons (es_str) (as_cons (es_var (pv 1)) (as_nil))))) (ss_one (ss_expr (es_bm1 m_append (es_var (pv 3)) (es_tup (as_cons (es_var (pv 4)) (as_cons (es_sl isF (es_var (pv 5)) (os_some (es_int)) (os_none)) (as_nil))))))) (ss_nil))))) (ss_nil))))
      (ss_one (ss_ret (es_var (pv 3))))))
theorem d_choices (T : Txt w K mg A) : Df true P w K mg base J 2 3 A.f_choices m_choices := by
  obtain ⟨fd, F, hb⟩ := T.d_choices
  exact df_of F sc_choices hb fun cdv A outer s H E hr =>
    (ss_cons (ss_if (ts_not (ts_tru (es_call (tks_of rfl rfl rfl rfl) (d_is_wide T) (hr.mono (by omega)) rfl T.g_is_wide T.k_is_wide (as_cons (es_ix (es_var (pv 0)) (es_int)) (as_nil))))) (ss_one (ss_ret (es_lst isF (as_cons (es_ix (es_var (pv 0)) (es_int)) (as_nil))))) (ss_nil))
      (ss_cons (ss_asg (es_sortTx isF rfl rfl T.n_sorted rfl T.n_set (es_lc (own := [("is_let", 4), ("other", 5)]) isF rfl sc_choices.nd (is_seq (es_var (pv 1))) (blkOk_by (own := [("is_let", 4), ("other", 5)]) (N := ["wished", "rules", "is_first", "some", "is_let", "other", "level", "sign"]) (sc := defScope s_choices) (by decide +kernel)) (by decide) (fun _ _ _ _ _ => gs_tup rfl (gss_cons (pg_name (i := 4) sc_choices.nd rfl (by first | exact Or.inl rfl | exact Or.inr rfl)) (gss_cons (pg_name (i := 5) sc_choices.nd rfl (by first | exact Or.inl rfl | exact Or.inr rfl)) (gss_nil)))) (fun _ _ _ _ _ => tts_one (ts_w (ws_and (ts_tru (es_sl isF (es_var (pv 5)) (os_none) (os_some (es_int)))) (ws_and1 (ts_not (ts_tru (es_call tks0 (d_is_wide T) (hr.mono (by omega)) rfl T.g_is_wide T.k_is_wide (as_cons (es_ix (es_var (pv 5)) (es_int)) (as_nil))))))))) (fun _ _ _ _ _ => es_ix (es_var (pv 5)) (es_int)))) (gs_name (pg_name (i := 3) sc_choices.nd rfl (by first | exact Or.inl rfl | exact Or.inr rfl))))
      (ss_cons (ss_if (ts_tru (es_var (pv 2))) (ss_one (ss_asg (es_lc (own := [("level", 6)]) isF rfl sc_choices.nd (is_seq (es_var (pv 3))) (blkOk_by (own := [("level", 6)]) (N := ["wished", "rules", "is_first", "some", "is_let", "other", "level", "sign"]) (sc := defScope s_choices) (by decide +kernel)) (by decide) (fun _ _ _ _ _ => gs_name (pg_name (i := 6) sc_choices.nd rfl (by first | exact Or.inl rfl | exact Or.inr rfl))) (fun _ _ _ _ _ => tts_one (ts_not (ts_tru (es_bm1 m_starts (es_var (pv 6)) (es_str))))) (fun _ _ _ _ _ => es_var (pv 6))) (gs_name (pg_name (i := 3) sc_choices.nd rfl (by first | exact Or.inl rfl | exact Or.inr rfl))))) (ss_nil))
      (ss_one (ss_ret (es_add isF (es_var (pv 3)) (es_lst isF (as_cons (es_ix (es_lc (own := [("sign", 7)]) isF rfl sc_choices.nd (is_seq (es_gstr rfl T.c_FRESH)) (blkOk_by (own := [("sign", 7)]) (N := ["wished", "rules", "is_first", "some", "is_let", "other", "level", "sign"]) (sc := defScope s_choices) (by decide +kernel)) (by decide) (fun _ _ _ _ _ => gs_name (pg_name (i := 7) sc_choices.nd rfl (by first | exact Or.inl rfl | exact Or.inr rfl))) (fun _ _ _ _ _ => tts_one (ts_cmp (c_notIn hr.u65) (es_var (pv 7)) (es_var (pv 3)))) (fun _ _ _ _ _ => es_var (pv 7))) (es_int)) (as_nil)))))))))
theorem d_law_mix (T : Txt w K mg A) : Df true P w K mg base J 2 2 A.f_law_mix m_law_mix := by
  obtain ⟨fd, F, hb⟩ := T.d_law_mix
  exact df_of F sc_law_mix hb fun cdv A outer s H E hr =>
    (ss_cons (ss_asg (es_mod (es_add isF (es_call (tks_of rfl rfl rfl rfl) (d_law_cell T) (hr.mono (by omega)) rfl T.g_law_cell T.k_law_cell (as_cons (es_var (pv 0)) (as_cons (es_var (pv 1)) (as_nil)))) (es_mul (es_int) (es_add isF (es_var (pv 1)) (es_int)))) (es_int)) (gs_name (pg_name (i := 2) sc_law_mix.nd rfl (by first | exact Or.inl rfl | exact Or.inr rfl))))
      (ss_cons (ss_asg (es_mod (es_pow (es_var (pv 2)) (es_int)) (es_int)) (gs_name (pg_name (i := 2) sc_law_mix.nd rfl (by first | exact Or.inl rfl | exact Or.inr rfl))))
      (ss_one (ss_ret (es_mod (es_add isF (es_mul (es_fdv (es_var (pv 2)) (es_int)) (es_int)) (es_var (pv 2))) (es_int))))))
theorem d_law_is_name (T : Txt w K mg A) : Df true P w K mg base J 2 1 A.f_law_is_name m_law_is_name := by
  obtain ⟨fd, F, hb⟩ := T.d_law_is_name
  exact df_of F sc_law_is_name hb fun cdv A outer s H E hr =>
    (ss_cons (ss_asg (es_bm1 (m_split isF) (es_var (pv 0)) (es_str)) (gs_name (pg_name (i := 1) sc_law_is_name.nd rfl (by first | exact Or.inl rfl | exact Or.inr rfl))))
      (ss_one (ss_ret (es_and (es_cmp (c_ne hr.units) (es_var (pv 0)) (es_str) (nomark _)) (es_and (es_cmp (c_lt) (es_b1 (b_len) rfl T.n_len (by decide +kernel) (es_var (pv 1))) (es_int) (nomark _)) (es_one (es_b1 (b_all rfl) rfl T.n_all (by decide +kernel) (es_lc (own := [("level", 2)]) isF rfl sc_law_is_name.nd (is_seq (es_var (pv 1))) (blkOk_by (own := [("level", 2)]) (N := ["name", "levels", "level"]) (sc := defScope s_law_is_name) (by decide +kernel)) (by decide) (fun _ _ _ _ _ => gs_name (pg_name (i := 2) sc_law_is_name.nd rfl (by first | exact Or.inl rfl | exact Or.inr rfl))) (fun _ _ _ _ _ => tts_nil) (fun _ _ _ _ _ => es_call tks0 (d_law_is_level T) (hr.mono (by omega)) rfl T.g_law_is_level T.k_law_is_level (as_cons (es_var (pv 2)) (as_nil)))))))))))
theorem d_law_lets (T : Txt w K mg A) : Df true P w K mg base J 2 4 A.f_law_lets m_law_lets := by
  obtain ⟨fd, F, hb⟩ := T.d_law_lets
  exact df_of F sc_law_lets hb fun cdv A outer s H E hr =>
    (ss_cons (ss_for (passes_of rfl) rfl (is_seq (es_var (pv 0))) (gs_name (pg_name (i := 4) sc_law_lets.nd rfl (by first | exact Or.inl rfl | exact Or.inr rfl))) (ss_one (ss_if (ts_w (ws_and (ts_cmp (c_in hr.u65) (es_ix (es_var (pv 4)) (es_int)) (es_tup (as_cons (es_str) (as_cons (es_var (pv 1)) (as_nil))))) (ws_and (ts_cmp (c_in hr.u65) (es_ix (es_var (pv 4)) (es_int)) (es_tup (as_cons (es_var (pv 2)) (as_cons (es_str) (as_nil))))) (ws_and1 (ts_tru (es_call (tks_of rfl rfl rfl rfl) (d_law_fits T) (hr.mono (by omega)) rfl T.g_law_fits T.k_law_fits (as_cons (es_ix (es_var (pv 4)) (es_int)) (as_cons (es_var (pv 3)) (as_nil))))))))) (ss_one (ss_ret (es_ix (es_var (pv 4)) (es_int)))) (ss_nil))))
      (ss_one (ss_ret (es_bl))))

theorem d_look_rules (T : Txt w K mg A) : Df true P w K mg base J 3 1 A.f_look_rules m_look_rules := by
  obtain ⟨fd, F, hb⟩ := T.d_look_rules
  exact df_of F sc_look_rules hb fun cdv A outer s H E hr =>
    (ss_cons (ss_if (ts_cmp (c_gt) (es_b1 (b_len) rfl T.n_len (by decide +kernel) (es_var (pv 0))) (es_gint rfl T.c_MOST_RULES) (nomark _)) (ss_one (ss_raise (z := true) (c := 2) rfl rfl ((tks_of rfl rfl rfl rfl)) PySem.F.excBase_ValueError T.x_BadName T.gc_BadName T.kc_BadName (raises_own T.b_BadName T.t_BadName) rfl)) (ss_nil))
      (ss_one (ss_for (passes_of rfl) rfl (is_seq (es_var (pv 0))) (gs_name (pg_name (i := 1) sc_look_rules.nd rfl (by first | exact Or.inl rfl | exact Or.inr rfl))) (ss_cons (ss_if (ts_w (ws_or (ts_cmp (c_ne hr.units) (es_b1 (b_len) rfl T.n_len (by decide +kernel) (es_var (pv 1))) (es_int) (nomark _)) (ws_or (ts_cmp (c_notIn hr.u65) (es_ix (es_var (pv 1)) (es_int)) (es_tup (as_cons (es_bl) (as_cons (es_bl) (as_nil))))) (ws_or1 (ts_cmp (c_notIn hr.u65) (es_ix (es_var (pv 1)) (es_int)) (es_tup (as_cons (es_str) (as_cons (es_str) (as_cons (es_str) (as_nil)))))))))) (ss_one (ss_raise (z := true) (c := 2) rfl rfl ((tks_of rfl rfl rfl rfl)) PySem.F.excBase_ValueError T.x_BadName T.gc_BadName T.kc_BadName (raises_own T.b_BadName T.t_BadName) rfl)) (ss_nil))
      (ss_cons (ss_if (ts_cmp (c_ne hr.units) (es_ix (es_var (pv 1)) (es_int)) (es_str) (nomark _)) (ss_one (ss_expr (es_call (tks_of rfl rfl rfl rfl) (d_look_hearer T) (hr.mono (by omega)) rfl T.g_look_hearer T.k_look_hearer (as_cons (es_ix (es_var (pv 1)) (es_int)) (as_nil))))) (ss_nil))
      (ss_one (ss_expr (es_call (tks_of rfl rfl rfl rfl) (d_look_wish T) (hr.mono (by omega)) rfl T.g_look_wish T.k_look_wish (as_cons (es_ix (es_var (pv 1)) (es_int)) (as_nil))))))))))
theorem d_law_draw (T : Txt w K mg A) : Df true P w K mg base J 3 3 A.f_law_draw m_law_draw := by
  obtain ⟨fd, F, hb⟩ := T.d_law_draw
  exact df_of F sc_law_draw hb fun cdv A outer s H E hr =>
    (ss_cons (ss_expr (es_bm1 m_append (es_var (pv 1)) (es_int)))
      (ss_one (ss_ret (es_mod (es_fdv (es_call (tks_of rfl rfl rfl rfl) (d_law_mix T) (hr.mono (by omega)) rfl T.g_law_mix T.k_law_mix (as_cons (es_var (pv 0)) (as_cons (es_b1 (b_len) rfl T.n_len (by decide +kernel) (es_var (pv 1))) (as_nil)))) (es_int)) (es_var (pv 2))))))
theorem d_law_pick (T : Txt w K mg A) : Df true P w K mg base J 4 3 A.f_law_pick m_law_pick := by
  obtain ⟨fd, F, hb⟩ := T.d_law_pick
  exact df_of F sc_law_pick hb fun cdv A outer s H E hr =>
    (ss_one (ss_ret (es_ix (es_var (pv 2)) (es_call (tks_of rfl rfl rfl rfl) (d_law_draw T) (hr.mono (by omega)) rfl T.g_law_draw T.k_law_draw (as_cons (es_var (pv 0)) (as_cons (es_var (pv 1)) (as_cons (es_b1 (b_len) rfl T.n_len (by decide +kernel) (es_var (pv 2))) (as_nil))))))))
theorem d_law_rules (T : Txt w K mg A) : Df true P w K mg base J 5 3 A.f_law_rules m_law_rules := by
  obtain ⟨fd, F, hb⟩ := T.d_law_rules
  exact df_of F sc_law_rules hb fun cdv A outer s H E hr =>
    (ss_cons (ss_asg (es_lst isM (as_nil)) (gs_name (pg_name (i := 3) sc_law_rules.nd rfl (by first | exact Or.inl rfl | exact Or.inr rfl))))
      (ss_cons (ss_for (passes_of rfl) rfl (is_range rfl T.n_range (es_call (tks_of rfl rfl rfl rfl) (d_law_draw T) (hr.mono (by omega)) rfl T.g_law_draw T.k_law_draw (as_cons (es_var (pv 0)) (as_cons (es_var (pv 1)) (as_cons (es_add isF (es_var (pv 2)) (es_int)) (as_nil)))))) (gs_name (pg_name (i := 4) sc_law_rules.nd rfl (by first | exact Or.inl rfl | exact Or.inr rfl))) (ss_cons (ss_asg (es_add isF (es_int) (es_call (tks_of rfl rfl rfl rfl) (d_law_draw T) (hr.mono (by omega)) rfl T.g_law_draw T.k_law_draw (as_cons (es_var (pv 0)) (as_cons (es_var (pv 1)) (as_cons (es_int) (as_nil)))))) (gs_name (pg_name (i := 5) sc_law_rules.nd rfl (by first | exact Or.inl rfl | exact Or.inr rfl))))
      (ss_cons (ss_setLc (i := 6) (own := [("j", 10)]) isF rfl sc_law_rules.nd rfl rfl (sw_true rfl rfl rfl (by decide +kernel)) (is_range rfl T.n_range (es_var (pv 5))) (blkOk_by (own := [("j", 10)]) (N := ["script", "town", "most", "found", "k", "many", "levels", "wish", "word", "hearer", "j"]) (sc := defScope s_law_rules) (by decide +kernel)) (by decide) (fun _ _ _ _ _ => gs_name (pg_name (i := 10) sc_law_rules.nd rfl (by first | exact Or.inl rfl | exact Or.inr rfl))) (fun _ _ _ _ _ => tts_nil) (fun _ _ _ _ _ => es_call tks0 (d_law_pick T) (hr.mono (by omega)) rfl T.g_law_pick T.k_law_pick (as_cons (es_var (pv 0)) (as_cons (es_var (pv 1)) (as_cons (es_lst isF (as_cons (es_str) (as_cons (es_str) (as_cons (es_str) (as_cons (es_str) (as_cons (es_str) (as_cons (es_str) (as_nil)))))))) (as_nil))))))
      (ss_cons (ss_if (ts_cmp (c_eq hr.units) (es_call (tks_of rfl rfl rfl rfl) (d_law_draw T) (hr.mono (by omega)) rfl T.g_law_draw T.k_law_draw (as_cons (es_var (pv 0)) (as_cons (es_var (pv 1)) (as_cons (es_int) (as_nil))))) (es_int) (nomark _)) (ss_one (ss_asg (es_add isF (es_sl isF (es_var (pv 6)) (os_none) (os_some (es_call (tks_of rfl rfl rfl rfl) (d_law_draw T) (hr.mono (by omega)) rfl T.g_law_draw T.k_law_draw (as_cons (es_var (pv 0)) (as_cons (es_var (pv 1)) (as_cons (es_b1 (b_len) rfl T.n_len (by decide +kernel) (es_var (pv 6))) (as_nil))))))) (es_lst isF (as_cons (es_str) (as_nil)))) (gs_name (pg_name (i := 6) sc_law_rules.nd rfl (by first | exact Or.inl rfl | exact Or.inr rfl))))) (ss_nil))
      (ss_cons (ss_asg (es_if (ts_cmp (c_ne hr.units) (es_var (pv 6)) (es_lst isF (as_cons (es_str) (as_nil))) (nomark _)) (es_bm1 m_join (es_str) (es_var (pv 6))) (es_str)) (gs_name (pg_name (i := 7) sc_law_rules.nd rfl (by first | exact Or.inl rfl | exact Or.inr rfl))))
      (ss_cons (ss_asg (es_call (tks_of rfl rfl rfl rfl) (d_law_pick T) (hr.mono (by omega)) rfl T.g_law_pick T.k_law_pick (as_cons (es_var (pv 0)) (as_cons (es_var (pv 1)) (as_cons (es_lst isF (as_cons (es_str) (as_cons (es_str) (as_cons (es_str) (as_cons (es_str) (as_nil)))))) (as_nil))))) (gs_name (pg_name (i := 8) sc_law_rules.nd rfl (by first | exact Or.inl rfl | exact Or.inr rfl))))
      (ss_cons (ss_asg (es_call (tks_of rfl rfl rfl rfl) (d_law_pick T) (hr.mono (by omega)) rfl T.g_law_pick T.k_law_pick (as_cons (es_var (pv 0)) (as_cons (es_var (pv 1)) (as_cons (es_lst isF (as_cons (es_str) (as_cons (es_str) (as_cons (es_str) (as_cons (es_str) (as_cons (es_str) (as_nil))))))) (as_nil))))) (gs_name (pg_name (i := 9) sc_law_rules.nd rfl (by first | exact Or.inl rfl | exact Or.inr rfl))))
      (ss_one (ss_expr (es_bm1 m_append (es_var (pv 3)) (es_tup (as_cons (es_cmp (c_eq hr.units) (es_call (tks_of rfl rfl rfl rfl) (d_law_draw T) (hr.mono (by omega)) rfl T.g_law_draw T.k_law_draw (as_cons (es_var (pv 0)) (as_cons (es_var (pv 1)) (as_cons (es_int) (as_nil))))) (es_int) (nomark _)) (as_cons (es_var (pv 9)) (as_cons (es_var (pv 8)) (as_cons (es_var (pv 7)) (as_nil))))))))))))))))
      (ss_one (ss_ret (es_var (pv 3))))))
theorem dr_fits_levels (T : Txt w K mg A) : ∀ n, Df true P w K mg base J (1 + n) 2 A.f_fits_levels (r_fits_levels n)
  | 0 => by
    obtain ⟨fd, F, hb⟩ := T.d_fits_levels
    exact Df.mono (df_of (k := 0) F sc_fits_levels hb fun cdv A outer s H E hr => ss_bad) (by omega)
  | n + 1 => by
    obtain ⟨fd, F, hb⟩ := T.d_fits_levels
    have D := dr_fits_levels T n
    exact df_of (k := 1 + n) F sc_fits_levels hb fun cdv A outer s H E hr =>
    (ss_cons (ss_if (ts_cmp (c_eq hr.units) (es_sl isF (es_var (pv 0)) (os_none) (os_some (es_int))) (es_lst isF (as_cons (es_str) (as_nil))) (nomark _)) (ss_one (ss_ret (es_bl))) (ss_nil))
      (ss_cons (ss_if (ts_w (ws_or (ts_not (ts_tru (es_var (pv 0)))) (ws_or1 (ts_not (ts_tru (es_var (pv 1))))))) (ss_one (ss_ret (es_and (es_not (es_var (pv 0))) (es_one (es_not (es_var (pv 1))))))) (ss_nil))
      (ss_one (ss_ret (es_and (es_cmp (c_in hr.u65) (es_ix (es_var (pv 0)) (es_int)) (es_tup (as_cons (es_str) (as_cons (es_ix (es_var (pv 1)) (es_int)) (as_nil))))) (es_one (es_call (tks_of rfl rfl rfl rfl) D (hr.mono (by omega)) rfl T.g_fits_levels T.k_fits_levels (as_cons (es_sl isF (es_var (pv 0)) (os_some (es_int)) (os_none)) (as_cons (es_sl isF (es_var (pv 1)) (os_some (es_int)) (os_none)) (as_nil))))))))))
theorem d_fits_levels (T : Txt w K mg A) : Df true P w K mg base J 13 2 A.f_fits_levels m_fits_levels := dr_fits_levels T 12
theorem d_fits (T : Txt w K mg A) : Df true P w K mg base J 14 2 A.f_fits m_fits := by
  obtain ⟨fd, F, hb⟩ := T.d_fits
  exact df_of F sc_fits hb fun cdv A outer s H E hr =>
    (ss_cons (ss_expr (es_call (tks_of rfl rfl rfl rfl) (d_look_wish T) (hr.mono (by omega)) rfl T.g_look_wish T.k_look_wish (as_cons (es_var (pv 0)) (as_nil))))
      (ss_cons (ss_expr (es_call (tks_of rfl rfl rfl rfl) (d_look_name T) (hr.mono (by omega)) rfl T.g_look_name T.k_look_name (as_cons (es_var (pv 1)) (as_nil))))
      (ss_cons (ss_asg (es_bm1 (m_split isF) (es_var (pv 0)) (es_str)) (gs_name (pg_name (i := 2) sc_fits.nd rfl (by first | exact Or.inl rfl | exact Or.inr rfl))))
      (ss_one (ss_ret (es_and (es_not (es_and (es_call (tks_of rfl rfl rfl rfl) (d_is_wide T) (hr.mono (by omega)) rfl T.g_is_wide T.k_is_wide (as_cons (es_ix (es_var (pv 2)) (es_int)) (as_nil))) (es_one (es_bm1 m_starts (es_var (pv 1)) (es_str))))) (es_one (es_call (tks_of rfl rfl rfl rfl) (d_fits_levels T) (hr.mono (by omega)) rfl T.g_fits_levels T.k_fits_levels (as_cons (es_var (pv 2)) (as_cons (es_bm1 (m_split isF) (es_var (pv 1)) (es_str)) (as_nil)))))))))))
theorem d_may_say (T : Txt w K mg A) : Df true P w K mg base J 15 3 A.f_may_say m_may_say := by
  obtain ⟨fd, F, hb⟩ := T.d_may_say
  exact df_of F sc_may_say hb fun cdv A outer s H E hr =>
    (ss_cons (ss_expr (es_call (tks_of rfl rfl rfl rfl) (d_look_rules T) (hr.mono (by omega)) rfl T.g_look_rules T.k_look_rules (as_cons (es_var (pv 0)) (as_nil))))
      (ss_cons (ss_expr (es_call (tks_of rfl rfl rfl rfl) (d_look_hearer T) (hr.mono (by omega)) rfl T.g_look_hearer T.k_look_hearer (as_cons (es_var (pv 1)) (as_nil))))
      (ss_cons (ss_expr (es_call (tks_of rfl rfl rfl rfl) (d_look_name T) (hr.mono (by omega)) rfl T.g_look_name T.k_look_name (as_cons (es_var (pv 2)) (as_nil))))
      (ss_cons (ss_for (passes_of rfl) rfl (is_seq (es_call (tks_of rfl rfl rfl rfl) (d_rules_of T) (hr.mono (by omega)) rfl T.g_rules_of T.k_rules_of (as_cons (es_var (pv 0)) (as_cons (es_var (pv 1)) (as_cons (es_str) (as_nil)))))) (gs_tup rfl (gss_cons (pg_name (i := 3) sc_may_say.nd rfl (by first | exact Or.inl rfl | exact Or.inr rfl)) (gss_cons (pg_name (i := 4) sc_may_say.nd rfl (by first | exact Or.inl rfl | exact Or.inr rfl)) (gss_nil)))) (ss_one (ss_if (ts_tru (es_call (tks_of rfl rfl rfl rfl) (d_fits T) (hr.mono (by omega)) rfl T.g_fits T.k_fits (as_cons (es_var (pv 4)) (as_cons (es_var (pv 2)) (as_nil))))) (ss_one (ss_ret (es_var (pv 3)))) (ss_nil))))
      (ss_one (ss_ret (es_bl)))))))
theorem dr_Search_go (T : Txt w K mg A) : ∀ n, Df true P w K mg base J (3 + 2 * n) 4 A.f_Search_go (r_Search_go n)
  | 0 => by
    obtain ⟨fd, F, hb⟩ := T.d_Search_go
    exact Df.mono (df_of (k := 0) F sc_Search_go hb fun cdv A outer s H E hr => ss_bad) (by omega)
  | n + 1 => by
    obtain ⟨fd, F, hb⟩ := T.d_Search_go
    obtain ⟨fd2, F2, hb2⟩ := T.d_Search_found
    have D := dr_Search_go T n
    have D2 : Df true P w K mg base J (3 + 2 * n + 1) 4 A.f_Search_found (h_Search_found (r_Search_go n)) := df_of (k := 3 + 2 * n) F2 sc_Search_found hb2 fun cdv A outer s H E hr =>
    (ss_cons (ss_asg (es_and (es_cmp (c_ne hr.units) (es_var (pv 3)) (es_tup (as_nil)) (nomark _)) (es_and (es_cmp (c_ne hr.units) (es_var (pv 3)) (es_tup (as_cons (es_str) (as_nil))) (nomark _)) (es_one (es_or (es_cmp (c_eq hr.units) (es_var (pv 1)) (es_tup (as_nil)) (nomark _)) (es_one (es_cmp (c_eq hr.units) (es_var (pv 1)) (es_tup (as_cons (es_str) (as_nil))) (nomark _))))))) (gs_name (pg_name (i := 4) sc_Search_found.nd rfl (by first | exact Or.inl rfl | exact Or.inr rfl))))
      (ss_cons (ss_if (ts_w (ws_and (ts_tru (es_var (pv 4))) (ws_and1 (ts_not (ts_tru (es_call (tks_of rfl rfl rfl rfl) (d_is_let_here T) (hr.mono (by omega)) rfl T.g_is_let_here T.k_is_let_here (as_cons (es_var (pv 2)) (as_nil)))))))) (ss_one (ss_ret (es_tup (as_nil)))) (ss_nil))
      (ss_cons (ss_if (ts_w (ws_or (ts_cmp (c_eq hr.units) (es_var (pv 1)) (es_tup (as_nil)) (nomark _)) (ws_or1 (ts_cmp (c_eq hr.units) (es_b1 (b_len) rfl T.n_len (by decide +kernel) (es_var (pv 3))) (es_gint rfl T.c_MOST_LEVELS) (nomark _))))) (ss_one (ss_ret (es_non))) (ss_nil))
      (ss_cons (ss_for (passes_of rfl) rfl (is_seq (es_call (tks_of rfl rfl rfl rfl) (d_choices T) (hr.mono (by omega)) rfl T.g_choices T.k_choices (as_cons (es_var (pv 1)) (as_cons (es_var (pv 2)) (as_cons (es_cmp (c_eq hr.units) (es_var (pv 3)) (es_tup (as_nil)) (nomark _)) (as_nil)))))) (gs_name (pg_name (i := 5) sc_Search_found.nd rfl (by first | exact Or.inl rfl | exact Or.inr rfl))) (ss_cons (ss_asg (es_if (ts_cmp (c_eq hr.units) (es_ix (es_var (pv 1)) (es_int)) (es_str) (nomark _)) (es_var (pv 1)) (es_sl isF (es_var (pv 1)) (os_some (es_int)) (os_none))) (gs_name (pg_name (i := 6) sc_Search_found.nd rfl (by first | exact Or.inl rfl | exact Or.inr rfl))))
      (ss_cons (ss_asg (es_meth (tks_of rfl rfl rfl rfl) T.me_Search_go D (hr.mono (by omega)) (es_var (pv 0)) (as_cons (es_var (pv 6)) (as_cons (es_call (tks_of rfl rfl rfl rfl) (d_stepped T) (hr.mono (by omega)) rfl T.g_stepped T.k_stepped (as_cons (es_var (pv 2)) (as_cons (es_var (pv 5)) (as_cons (es_cmp (c_eq hr.units) (es_var (pv 3)) (es_tup (as_nil)) (nomark _)) (as_nil))))) (as_cons (es_add isF (es_var (pv 3)) (es_tup (as_cons (es_var (pv 5)) (as_nil)))) (as_nil))))) (gs_name (pg_name (i := 7) sc_Search_found.nd rfl (by first | exact Or.inl rfl | exact Or.inr rfl))))
      (ss_one (ss_if (ts_notN (es_var (pv 7))) (ss_one (ss_ret (es_add isF (es_tup (as_cons (es_var (pv 5)) (as_nil))) (es_var (pv 7))))) (ss_nil))))))
      (ss_one (ss_ret (es_non)))))))
    exact df_of (k := 3 + 2 * n + 1) F sc_Search_go hb fun cdv A outer s H E hr =>
    (ss_cons (ss_asg (es_tup (as_cons (es_var (pv 1)) (as_cons (es_y1 (b_tuple) rfl T.n_tuple (by decide +kernel) (es_var (pv 2))) (as_cons (es_b1 (b_len) rfl T.n_len (by decide +kernel) (es_var (pv 3))) (as_cons (es_cmp (c_eq hr.units) (es_var (pv 3)) (es_tup (as_cons (es_str) (as_nil))) (nomark _)) (as_nil)))))) (gs_name (pg_name (i := 4) sc_Search_go.nd rfl (by first | exact Or.inl rfl | exact Or.inr rfl))))
      (ss_cons (ss_if (ts_cmp (c_notN hr.u65) (es_var (pv 4)) (es_fld T.a_Search_known (es_var (pv 0)))) (ss_one (ss_Nput hr.u65 (es_fld T.a_Search_known (es_var (pv 0))) (es_var (pv 4)) (es_meth (tks_of rfl rfl rfl rfl) T.me_Search_found D2 (hr.mono (by omega)) (es_var (pv 0)) (as_cons (es_var (pv 1)) (as_cons (es_var (pv 2)) (as_cons (es_var (pv 3)) (as_nil))))))) (ss_nil))
      (ss_one (ss_ret (es_dNget hr.u65 (es_fld T.a_Search_known (es_var (pv 0))) (es_var (pv 4)))))))
theorem d_Search_go (T : Txt w K mg A) : Df true P w K mg base J 27 4 A.f_Search_go m_Search_go := dr_Search_go T 12
theorem d_may_hear (T : Txt w K mg A) : Df true P w K mg base J 28 3 A.f_may_hear m_may_hear := by
  obtain ⟨fd, F, hb⟩ := T.d_may_hear
  exact df_of F sc_may_hear hb fun cdv A outer s H E hr =>
    (ss_cons (ss_expr (es_call (tks_of rfl rfl rfl rfl) (d_look_rules T) (hr.mono (by omega)) rfl T.g_look_rules T.k_look_rules (as_cons (es_var (pv 0)) (as_nil))))
      (ss_cons (ss_expr (es_call (tks_of rfl rfl rfl rfl) (d_look_hearer T) (hr.mono (by omega)) rfl T.g_look_hearer T.k_look_hearer (as_cons (es_var (pv 1)) (as_nil))))
      (ss_cons (ss_expr (es_call (tks_of rfl rfl rfl rfl) (d_look_wish T) (hr.mono (by omega)) rfl T.g_look_wish T.k_look_wish (as_cons (es_var (pv 2)) (as_nil))))
      (ss_cons (ss_setLc (i := 3) (own := [("is_let", 5), ("other", 6)]) isF rfl sc_may_hear.nd rfl rfl (sw_true rfl rfl rfl (by decide +kernel)) (is_seq (es_call (tks_of rfl rfl rfl rfl) (d_rules_of T) (hr.mono (by omega)) rfl T.g_rules_of T.k_rules_of (as_cons (es_var (pv 0)) (as_cons (es_var (pv 1)) (as_cons (es_str) (as_nil)))))) (blkOk_by (own := [("is_let", 5), ("other", 6)]) (N := ["rules", "hearer", "wish", "some", "found", "is_let", "other"]) (sc := defScope s_may_hear) (by decide +kernel)) (by decide) (fun _ _ _ _ _ => gs_tup rfl (gss_cons (pg_name (i := 5) sc_may_hear.nd rfl (by first | exact Or.inl rfl | exact Or.inr rfl)) (gss_cons (pg_name (i := 6) sc_may_hear.nd rfl (by first | exact Or.inl rfl | exact Or.inr rfl)) (gss_nil)))) (fun _ _ _ _ _ => tts_nil) (fun _ _ _ _ _ => es_tup (as_cons (es_var (pv 5)) (as_cons (es_y1 (b_tuple) rfl T.n_tuple (by decide +kernel) (es_bm1 (m_split isF) (es_var (pv 6)) (es_str))) (as_nil)))))
      (ss_cons (ss_asg (es_meth (tks_of rfl rfl rfl rfl) T.me_Search_go (d_Search_go T) (hr.mono (by omega)) (es_make0 (tks_of rfl rfl rfl rfl) T.mk_Search (d_Search_init T) (hr.mono (by omega)) (m_Search_init_non) rfl rfl) (as_cons (es_y1 (b_tuple) rfl T.n_tuple (by decide +kernel) (es_bm1 (m_split isF) (es_var (pv 2)) (es_str))) (as_cons (es_var (pv 3)) (as_cons (es_tup (as_nil)) (as_nil))))) (gs_name (pg_name (i := 4) sc_may_hear.nd rfl (by first | exact Or.inl rfl | exact Or.inr rfl))))
      (ss_one (ss_ret (es_if (ts_isN (es_var (pv 4))) (es_non) (es_bm1 m_join (es_str) (es_var (pv 4)))))))))))
theorem d_law_told (T : Txt w K mg A) : Df true P w K mg base J 29 4 A.f_law_told m_law_told := by
  obtain ⟨fd, F, hb⟩ := T.d_law_told
  exact df_of F sc_law_told hb fun cdv A outer s H E hr =>
    (ss_cons (ss_asg (es_non) (gs_name (pg_name (i := 4) sc_law_told.nd rfl (by first | exact Or.inl rfl | exact Or.inr rfl))))
      (ss_cons (ss_asg (es_non) (gs_name (pg_name (i := 5) sc_law_told.nd rfl (by first | exact Or.inl rfl | exact Or.inr rfl))))
      (ss_cons (ss_try_held rfl rfl sc_law_told.nd (ie := 6) rfl rfl ⟨rfl, by decide, .inl T.gc_TidingError⟩ rfl T.xm_TidingError (fun W pn xe tk po => ss_one (ss_asg (es_if (ts_cmp (c_eq hr.units) (es_var (pv 0)) (es_int) (nomark _)) (es_call (Tks.up tk) (d_may_say T) (hr.mono (by omega)) rfl T.g_may_say T.k_may_say (as_cons (es_var (pv 1)) (as_cons (es_var (pv 2)) (as_cons (es_var (pv 3)) (as_nil))))) (es_call (Tks.up tk) (d_may_hear T) (hr.mono (by omega)) rfl T.g_may_hear T.k_may_hear (as_cons (es_var (pv 1)) (as_cons (es_var (pv 2)) (as_cons (es_var (pv 3)) (as_nil)))))) (gs_name (pg_name (i := 5) sc_law_told.nd rfl (by first | exact Or.inl rfl | exact Or.inr rfl))))) (fun _ _ => pv 6) (fun _ _ => (pg_name (i := 4) sc_law_told.nd rfl (by first | exact Or.inl rfl | exact Or.inr rfl))))
      (ss_one (ss_ret (es_if (ts_isN (es_var (pv 4))) (es_var (pv 5)) (es_call (tks_of rfl rfl rfl rfl) (d_law_refusal T) (hr.mono (by omega)) rfl T.g_law_refusal T.k_law_refusal (as_cons (es_var (pv 4)) (as_nil)))))))))
theorem d_law_good (T : Txt w K mg A) : Df true P w K mg base J 30 3 A.f_law_good m_law_good := by
  obtain ⟨fd, F, hb⟩ := T.d_law_good
  exact df_of F sc_law_good hb fun cdv A outer s H E hr =>
    (ss_cons (ss_asg (es_call (tks_of rfl rfl rfl rfl) (d_law_told T) (hr.mono (by omega)) rfl T.g_law_told T.k_law_told (as_cons (es_int) (as_cons (es_var (pv 0)) (as_cons (es_var (pv 1)) (as_cons (es_var (pv 2)) (as_nil)))))) (gs_name (pg_name (i := 3) sc_law_good.nd rfl (by first | exact Or.inl rfl | exact Or.inr rfl))))
      (ss_cons (ss_if (ts_isN (es_var (pv 3))) (ss_cons (ss_setLc (i := 4) (own := [("name", 5)]) isF rfl sc_law_good.nd rfl rfl (sw_true rfl rfl rfl (by decide +kernel)) (is_seq (es_call0 (tks_of rfl rfl rfl rfl) (d_law_names T) (hr.mono (by omega)) rfl T.g_law_names T.k_law_names)) (blkOk_by (own := [("name", 5)]) (N := ["rules", "hearer", "wish", "found", "some", "name"]) (sc := defScope s_law_good) (by decide +kernel)) (by decide) (fun _ _ _ _ _ => gs_name (pg_name (i := 5) sc_law_good.nd rfl (by first | exact Or.inl rfl | exact Or.inr rfl))) (fun _ _ _ _ _ => tts_one (ts_tru (es_call tks0 (d_law_fits T) (hr.mono (by omega)) rfl T.g_law_fits T.k_law_fits (as_cons (es_var (pv 2)) (as_cons (es_var (pv 5)) (as_nil)))))) (fun _ _ _ _ _ => es_var (pv 5)))
      (ss_one (ss_ret (es_b1 (b_all rfl) rfl T.n_all (by decide +kernel) (es_lc (own := [("name", 5)]) isF rfl sc_law_good.nd (is_seq (es_var (pv 4))) (blkOk_by (own := [("name", 5)]) (N := ["rules", "hearer", "wish", "found", "some", "name"]) (sc := defScope s_law_good) (by decide +kernel)) (by decide) (fun _ _ _ _ _ => gs_name (pg_name (i := 5) sc_law_good.nd rfl (by first | exact Or.inl rfl | exact Or.inr rfl))) (fun _ _ _ _ _ => tts_nil) (fun _ _ _ _ _ => es_call tks0 (d_law_lets T) (hr.mono (by omega)) rfl T.g_law_lets T.k_law_lets (as_cons (es_var (pv 0)) (as_cons (es_var (pv 1)) (as_cons (es_str) (as_cons (es_var (pv 5)) (as_nil))))))))))) (ss_nil))
      (ss_cons (ss_if (ts_w (ws_or (ts_not (ts_tru (es_isi (n := "str") (by decide +kernel) rfl T.n_isinstance rfl T.n_str (by decide +kernel) (es_var (pv 3))))) (ws_or (ts_not (ts_tru (es_call (tks_of rfl rfl rfl rfl) (d_law_is_name T) (hr.mono (by omega)) rfl T.g_law_is_name T.k_law_is_name (as_cons (es_var (pv 3)) (as_nil))))) (ws_or1 (ts_not (ts_tru (es_call (tks_of rfl rfl rfl rfl) (d_law_fits T) (hr.mono (by omega)) rfl T.g_law_fits T.k_law_fits (as_cons (es_var (pv 2)) (as_cons (es_var (pv 3)) (as_nil)))))))))) (ss_one (ss_ret (es_bl))) (ss_nil))
      (ss_one (ss_ret (es_not (es_call (tks_of rfl rfl rfl rfl) (d_law_lets T) (hr.mono (by omega)) rfl T.g_law_lets T.k_law_lets (as_cons (es_var (pv 0)) (as_cons (es_var (pv 1)) (as_cons (es_str) (as_cons (es_var (pv 3)) (as_nil))))))))))))
theorem fn_law {fd : FuncData} (T : Txt w K mg A) (F : Fun K "law" "law" s_law A.f_law fd) : FnOk P w K mg base (cxt true P w) 31 A.f_law fd ["script"] (spD ⟨K, mg, J, w⟩ 1 m_law) :=
  fn_of_body F sc_law rfl rfl fun cdv A outer s H E hr =>
    (ss_cons (ss_asg (es_lst isM (as_nil)) (gs_name (pg_name (i := 1) sc_law.nd rfl (by first | exact Or.inl rfl | exact Or.inr rfl))))
      (ss_cons (ss_asg (es_call (tks_of rfl rfl rfl rfl) (d_law_rules T) (hr.mono (by omega)) rfl T.g_law_rules T.k_law_rules (as_cons (es_var (pv 0)) (as_cons (es_var (pv 1)) (as_cons (es_int) (as_nil))))) (gs_name (pg_name (i := 2) sc_law.nd rfl (by first | exact Or.inl rfl | exact Or.inr rfl))))
      (ss_cons (ss_asg (es_call (tks_of rfl rfl rfl rfl) (d_law_pick T) (hr.mono (by omega)) rfl T.g_law_pick T.k_law_pick (as_cons (es_var (pv 0)) (as_cons (es_var (pv 1)) (as_cons (es_lst isF (as_cons (es_str) (as_cons (es_str) (as_cons (es_str) (as_nil))))) (as_nil))))) (gs_name (pg_name (i := 3) sc_law.nd rfl (by first | exact Or.inl rfl | exact Or.inr rfl))))
      (ss_cons (ss_asg (es_call (tks_of rfl rfl rfl rfl) (d_law_rules T) (hr.mono (by omega)) rfl T.g_law_rules T.k_law_rules (as_cons (es_var (pv 0)) (as_cons (es_var (pv 1)) (as_cons (es_int) (as_nil))))) (gs_name (pg_name (i := 4) sc_law.nd rfl (by first | exact Or.inl rfl | exact Or.inr rfl))))
      (ss_cons (ss_asg (es_if (ts_tru (es_var (pv 4))) (es_ix (es_ix (es_var (pv 4)) (es_int)) (es_int)) (es_call (tks_of rfl rfl rfl rfl) (d_law_pick T) (hr.mono (by omega)) rfl T.g_law_pick T.k_law_pick (as_cons (es_var (pv 0)) (as_cons (es_var (pv 1)) (as_cons (es_lst isF (as_cons (es_str) (as_cons (es_str) (as_cons (es_str) (as_cons (es_str) (as_cons (es_str) (as_nil))))))) (as_nil)))))) (gs_name (pg_name (i := 4) sc_law.nd rfl (by first | exact Or.inl rfl | exact Or.inr rfl))))
      (ss_cons (ss_asg (es_y1 (b_list isF) rfl T.n_list (by decide +kernel) (es_var (pv 2))) (gs_name (pg_name (i := 5) sc_law.nd rfl (by first | exact Or.inl rfl | exact Or.inr rfl))))
      (ss_cons (ss_if (ts_w (ws_or (ts_not (ts_tru (es_call (tks_of rfl rfl rfl rfl) (d_law_good T) (hr.mono (by omega)) rfl T.g_law_good T.k_law_good (as_cons (es_var (pv 5)) (as_cons (es_var (pv 3)) (as_cons (es_var (pv 4)) (as_nil))))))) (ws_or1 (ts_cmp (c_ne hr.units) (es_var (pv 5)) (es_var (pv 2)) (nomark _))))) (ss_one (ss_ret (es_bl))) (ss_nil))
      (ss_cons (ss_asg (es_call0 (tks_of rfl rfl rfl rfl) (d_law_names T) (hr.mono (by omega)) rfl T.g_law_names T.k_law_names) (gs_name (pg_name (i := 6) sc_law.nd rfl (by first | exact Or.inl rfl | exact Or.inr rfl))))
      (ss_cons (ss_for (passes_of rfl) rfl (is_range rfl T.n_range (es_int)) (gs_name (pg_name (i := 7) sc_law.nd rfl (by first | exact Or.inl rfl | exact Or.inr rfl))) (ss_cons (ss_asg (es_ix (es_var (pv 6)) (es_call (tks_of rfl rfl rfl rfl) (d_law_draw T) (hr.mono (by omega)) rfl T.g_law_draw T.k_law_draw (as_cons (es_var (pv 0)) (as_cons (es_var (pv 1)) (as_cons (es_b1 (b_len) rfl T.n_len (by decide +kernel) (es_var (pv 6))) (as_nil)))))) (gs_name (pg_name (i := 8) sc_law.nd rfl (by first | exact Or.inl rfl | exact Or.inr rfl))))
      (ss_cons (ss_asg (es_call (tks_of rfl rfl rfl rfl) (d_law_told T) (hr.mono (by omega)) rfl T.g_law_told T.k_law_told (as_cons (es_int) (as_cons (es_var (pv 2)) (as_cons (es_var (pv 3)) (as_cons (es_var (pv 8)) (as_nil)))))) (gs_name (pg_name (i := 9) sc_law.nd rfl (by first | exact Or.inl rfl | exact Or.inr rfl))))
      (ss_one (ss_if (ts_w (ws_or (ts_not (ts_tru (es_isi (n := "bool") (by decide +kernel) rfl T.n_isinstance rfl T.n_bool (by decide +kernel) (es_var (pv 9))))) (ws_or1 (ts_cmp (c_ne hr.units) (es_var (pv 9)) (es_call (tks_of rfl rfl rfl rfl) (d_law_lets T) (hr.mono (by omega)) rfl T.g_law_lets T.k_law_lets (as_cons (es_var (pv 2)) (as_cons (es_var (pv 3)) (as_cons (es_str) (as_cons (es_var (pv 8)) (as_nil)))))) (nomark _))))) (ss_one (ss_ret (es_bl))) (ss_nil))))))
      (ss_cons (ss_asg (es_lst isF (as_cons (es_tup (as_cons (es_bl) (as_cons (es_str) (as_cons (es_str) (as_cons (es_str) (as_nil)))))) (as_cons (es_tup (as_cons (es_bl) (as_cons (es_str) (as_cons (es_str) (as_cons (es_str) (as_nil)))))) (as_cons (es_tup (as_cons (es_bl) (as_cons (es_str) (as_cons (es_str) (as_cons (es_str) (as_nil)))))) (as_cons (es_tup (as_cons (es_bl) (as_cons (es_str) (as_cons (es_str) (as_nil))))) (as_nil)))))) (gs_name (pg_name (i := 10) sc_law.nd rfl (by first | exact Or.inl rfl | exact Or.inr rfl))))
      (ss_cons (ss_asg (es_add isF (es_var (pv 2)) (es_lst isF (as_cons (es_ix (es_var (pv 10)) (es_call (tks_of rfl rfl rfl rfl) (d_law_draw T) (hr.mono (by omega)) rfl T.g_law_draw T.k_law_draw (as_cons (es_var (pv 0)) (as_cons (es_var (pv 1)) (as_cons (es_int) (as_nil)))))) (as_nil)))) (gs_name (pg_name (i := 10) sc_law.nd rfl (by first | exact Or.inl rfl | exact Or.inr rfl))))
      (ss_cons (ss_if (ts_cmp (c_eq hr.units) (es_call (tks_of rfl rfl rfl rfl) (d_law_draw T) (hr.mono (by omega)) rfl T.g_law_draw T.k_law_draw (as_cons (es_var (pv 0)) (as_cons (es_var (pv 1)) (as_cons (es_int) (as_nil))))) (es_int) (nomark _)) (ss_one (ss_asg (es_rep isF (es_lst isF (as_cons (es_tup (as_cons (es_bl) (as_cons (es_str) (as_cons (es_str) (as_cons (es_str) (as_nil)))))) (as_nil))) (es_int)) (gs_name (pg_name (i := 10) sc_law.nd rfl (by first | exact Or.inl rfl | exact Or.inr rfl))))) (ss_nil))
      (ss_cons (ss_if (ts_cmp (c_ne hr.units) (es_lc (own := [("way", 11)]) isF rfl sc_law.nd (is_range rfl T.n_range (es_int)) (blkOk_by (own := [("way", 11)]) (N := ["script", "town", "rules", "hearer", "wish", "given", "names", "k", "name", "found", "bad", "way"]) (sc := defScope s_law) (by decide +kernel)) (by decide) (fun _ _ _ _ _ => gs_name (pg_name (i := 11) sc_law.nd rfl (by first | exact Or.inl rfl | exact Or.inr rfl))) (fun _ _ _ _ _ => tts_nil) (fun _ _ _ _ _ => es_call tks0 (d_law_told T) (hr.mono (by omega)) rfl T.g_law_told T.k_law_told (as_cons (es_var (pv 11)) (as_cons (es_var (pv 10)) (as_cons (es_var (pv 3)) (as_cons (es_str) (as_nil))))))) (es_rep isF (es_lst isF (as_cons (es_tup (as_cons (es_str) (as_cons (es_str) (as_nil)))) (as_nil))) (es_int)) (nomark _)) (ss_one (ss_ret (es_bl))) (ss_nil))
      (ss_cons (ss_if (ts_cmp (c_ne hr.units) (es_lc (own := [("way", 11)]) isF rfl sc_law.nd (is_range rfl T.n_range (es_int)) (blkOk_by (own := [("way", 11)]) (N := ["script", "town", "rules", "hearer", "wish", "given", "names", "k", "name", "found", "bad", "way"]) (sc := defScope s_law) (by decide +kernel)) (by decide) (fun _ _ _ _ _ => gs_name (pg_name (i := 11) sc_law.nd rfl (by first | exact Or.inl rfl | exact Or.inr rfl))) (fun _ _ _ _ _ => tts_nil) (fun _ _ _ _ _ => es_call tks0 (d_law_told T) (hr.mono (by omega)) rfl T.g_law_told T.k_law_told (as_cons (es_var (pv 11)) (as_cons (es_var (pv 2)) (as_cons (es_str) (as_cons (es_str) (as_nil))))))) (es_rep isF (es_lst isF (as_cons (es_tup (as_cons (es_str) (as_cons (es_str) (as_nil)))) (as_nil))) (es_int)) (nomark _)) (ss_one (ss_ret (es_bl))) (ss_nil))
      (ss_one (ss_ret (es_cmp (c_eq hr.units) (es_lc (own := [("way", 11)]) isF rfl sc_law.nd (is_range rfl T.n_range (es_int)) (blkOk_by (own := [("way", 11)]) (N := ["script", "town", "rules", "hearer", "wish", "given", "names", "k", "name", "found", "bad", "way"]) (sc := defScope s_law) (by decide +kernel)) (by decide) (fun _ _ _ _ _ => gs_name (pg_name (i := 11) sc_law.nd rfl (by first | exact Or.inl rfl | exact Or.inr rfl))) (fun _ _ _ _ _ => tts_nil) (fun _ _ _ _ _ => es_call tks0 (d_law_told T) (hr.mono (by omega)) rfl T.g_law_told T.k_law_told (as_cons (es_var (pv 11)) (as_cons (es_var (pv 2)) (as_cons (es_str) (as_cons (es_ix (es_lst isF (as_cons (es_str) (as_cons (es_str) (as_nil)))) (es_var (pv 11))) (as_nil))))))) (es_rep isF (es_lst isF (as_cons (es_tup (as_cons (es_str) (as_cons (es_str) (as_nil)))) (as_nil))) (es_int)) (nomark _))))))))))))))))))
end
theorem all_mk {l : PySem.W.OpenLaw} {w : World} {K : PySem.W.Frag} {h : Heap} {mg : Str → Option Value} {fa : Addr} (X : K.In h) (G : h.Ns mainGlobals mg) (hfa : mg "law" = some (.ref fa))
    {C_Search : Addr}
    {C_TidingError : Addr}
    {C_BadName : Addr}
    {C_BadPacket : Addr}
    {C_BadBytes : Addr}
    {C_BadLine : Addr}
    {C_BadText : Addr}
    {f_is_level : Addr} {od_is_level an_is_level : Option Addr} {sl_is_level : Array (Option Value)} {oc_is_level kV_is_level dc_is_level pm_is_level cd_is_level ct_is_level : Value}
    {f_look_hearer : Addr} {od_look_hearer an_look_hearer : Option Addr} {sl_look_hearer : Array (Option Value)} {oc_look_hearer kV_look_hearer dc_look_hearer pm_look_hearer cd_look_hearer ct_look_hearer : Value}
    {f_is_wide : Addr} {od_is_wide an_is_wide : Option Addr} {sl_is_wide : Array (Option Value)} {oc_is_wide kV_is_wide dc_is_wide pm_is_wide cd_is_wide ct_is_wide : Value}
    {f_rules_of : Addr} {od_rules_of an_rules_of : Option Addr} {sl_rules_of : Array (Option Value)} {oc_rules_of kV_rules_of dc_rules_of pm_rules_of cd_rules_of ct_rules_of : Value}
    {f_is_let_here : Addr} {od_is_let_here an_is_let_here : Option Addr} {sl_is_let_here : Array (Option Value)} {oc_is_let_here kV_is_let_here dc_is_let_here pm_is_let_here cd_is_let_here ct_is_let_here : Value}
    {f_Search_init : Addr} {od_Search_init an_Search_init : Option Addr} {sl_Search_init : Array (Option Value)} {oc_Search_init kV_Search_init dc_Search_init pm_Search_init cd_Search_init ct_Search_init : Value}
    {f_law_cell : Addr} {od_law_cell an_law_cell : Option Addr} {sl_law_cell : Array (Option Value)} {oc_law_cell kV_law_cell dc_law_cell pm_law_cell cd_law_cell ct_law_cell : Value}
    {f_law_refusal : Addr} {od_law_refusal an_law_refusal : Option Addr} {sl_law_refusal : Array (Option Value)} {oc_law_refusal kV_law_refusal dc_law_refusal pm_law_refusal cd_law_refusal ct_law_refusal : Value}
    {f_law_is_level : Addr} {od_law_is_level an_law_is_level : Option Addr} {sl_law_is_level : Array (Option Value)} {oc_law_is_level kV_law_is_level dc_law_is_level pm_law_is_level cd_law_is_level ct_law_is_level : Value}
    {f_law_fits : Addr} {od_law_fits an_law_fits : Option Addr} {sl_law_fits : Array (Option Value)} {oc_law_fits kV_law_fits dc_law_fits pm_law_fits cd_law_fits ct_law_fits : Value}
    {f_law_names : Addr} {od_law_names an_law_names : Option Addr} {sl_law_names : Array (Option Value)} {oc_law_names kV_law_names dc_law_names pm_law_names cd_law_names ct_law_names : Value}
    {f_look_name : Addr} {od_look_name an_look_name : Option Addr} {sl_look_name : Array (Option Value)} {oc_look_name kV_look_name dc_look_name pm_look_name cd_look_name ct_look_name : Value}
    {f_look_wish : Addr} {od_look_wish an_look_wish : Option Addr} {sl_look_wish : Array (Option Value)} {oc_look_wish kV_look_wish dc_look_wish pm_look_wish cd_look_wish ct_look_wish : Value}
    {f_stepped : Addr} {od_stepped an_stepped : Option Addr} {sl_stepped : Array (Option Value)} {oc_stepped kV_stepped dc_stepped pm_stepped cd_stepped ct_stepped : Value}
    {f_choices : Addr} {od_choices an_choices : Option Addr} {sl_choices : Array (Option Value)} {oc_choices kV_choices dc_choices pm_choices cd_choices ct_choices : Value}
    {f_law_mix : Addr} {od_law_mix an_law_mix : Option Addr} {sl_law_mix : Array (Option Value)} {oc_law_mix kV_law_mix dc_law_mix pm_law_mix cd_law_mix ct_law_mix : Value}
    {f_law_is_name : Addr} {od_law_is_name an_law_is_name : Option Addr} {sl_law_is_name : Array (Option Value)} {oc_law_is_name kV_law_is_name dc_law_is_name pm_law_is_name cd_law_is_name ct_law_is_name : Value}
    {f_law_lets : Addr} {od_law_lets an_law_lets : Option Addr} {sl_law_lets : Array (Option Value)} {oc_law_lets kV_law_lets dc_law_lets pm_law_lets cd_law_lets ct_law_lets : Value}
    {f_Search_found : Addr} {od_Search_found an_Search_found : Option Addr} {sl_Search_found : Array (Option Value)} {oc_Search_found kV_Search_found dc_Search_found pm_Search_found cd_Search_found ct_Search_found : Value}
    {f_look_rules : Addr} {od_look_rules an_look_rules : Option Addr} {sl_look_rules : Array (Option Value)} {oc_look_rules kV_look_rules dc_look_rules pm_look_rules cd_look_rules ct_look_rules : Value}
    {f_law_draw : Addr} {od_law_draw an_law_draw : Option Addr} {sl_law_draw : Array (Option Value)} {oc_law_draw kV_law_draw dc_law_draw pm_law_draw cd_law_draw ct_law_draw : Value}
    {f_law_pick : Addr} {od_law_pick an_law_pick : Option Addr} {sl_law_pick : Array (Option Value)} {oc_law_pick kV_law_pick dc_law_pick pm_law_pick cd_law_pick ct_law_pick : Value}
    {f_law_rules : Addr} {od_law_rules an_law_rules : Option Addr} {sl_law_rules : Array (Option Value)} {oc_law_rules kV_law_rules dc_law_rules pm_law_rules cd_law_rules ct_law_rules : Value}
    {f_fits_levels : Addr} {od_fits_levels an_fits_levels : Option Addr} {sl_fits_levels : Array (Option Value)} {oc_fits_levels kV_fits_levels dc_fits_levels pm_fits_levels cd_fits_levels ct_fits_levels : Value}
    {f_fits : Addr} {od_fits an_fits : Option Addr} {sl_fits : Array (Option Value)} {oc_fits kV_fits dc_fits pm_fits cd_fits ct_fits : Value}
    {f_may_say : Addr} {od_may_say an_may_say : Option Addr} {sl_may_say : Array (Option Value)} {oc_may_say kV_may_say dc_may_say pm_may_say cd_may_say ct_may_say : Value}
    {f_Search_go : Addr} {od_Search_go an_Search_go : Option Addr} {sl_Search_go : Array (Option Value)} {oc_Search_go kV_Search_go dc_Search_go pm_Search_go cd_Search_go ct_Search_go : Value}
    {f_may_hear : Addr} {od_may_hear an_may_hear : Option Addr} {sl_may_hear : Array (Option Value)} {oc_may_hear kV_may_hear dc_may_hear pm_may_hear cd_may_hear ct_may_hear : Value}
    {f_law_told : Addr} {od_law_told an_law_told : Option Addr} {sl_law_told : Array (Option Value)} {oc_law_told kV_law_told dc_law_told pm_law_told cd_law_told ct_law_told : Value}
    {f_law_good : Addr} {od_law_good an_law_good : Option Addr} {sl_law_good : Array (Option Value)} {oc_law_good kV_law_good dc_law_good pm_law_good cd_law_good ct_law_good : Value}
    {f_law : Addr} {od_law an_law : Option Addr} {sl_law : Array (Option Value)} {oc_law kV_law dc_law pm_law cd_law ct_law : Value}
    {t_MOST_LEVELS : Tok}
    {t_MOST_SIGNS : Tok}
    {t_SMALL : Tok}
    {t_MOST_RULES : Tok}
    {t_FRESH : Tok}
    (aC_Search : PySem.W.nsIn K mainGlobals "Search" = some (some (.ref C_Search)))
    (kC_Search : PySem.W.keepIn K (.ref C_Search) = true)
    (aC_TidingError : PySem.W.nsIn K mainGlobals "TidingError" = some (some (.ref C_TidingError)))
    (kC_TidingError : PySem.W.keepIn K (.ref C_TidingError) = true)
    (aC_BadName : PySem.W.nsIn K mainGlobals "BadName" = some (some (.ref C_BadName)))
    (kC_BadName : PySem.W.keepIn K (.ref C_BadName) = true)
    (aC_BadPacket : PySem.W.nsIn K mainGlobals "BadPacket" = some (some (.ref C_BadPacket)))
    (kC_BadPacket : PySem.W.keepIn K (.ref C_BadPacket) = true)
    (aC_BadBytes : PySem.W.nsIn K mainGlobals "BadBytes" = some (some (.ref C_BadBytes)))
    (kC_BadBytes : PySem.W.keepIn K (.ref C_BadBytes) = true)
    (aC_BadLine : PySem.W.nsIn K mainGlobals "BadLine" = some (some (.ref C_BadLine)))
    (kC_BadLine : PySem.W.keepIn K (.ref C_BadLine) = true)
    (aC_BadText : PySem.W.nsIn K mainGlobals "BadText" = some (some (.ref C_BadText)))
    (kC_BadText : PySem.W.keepIn K (.ref C_BadText) = true)
    (a_is_level : PySem.W.nsIn K mainGlobals "is_level" = some (some (.ref f_is_level)))
    (l_is_level : K.lookup f_is_level = some ⟨oc_is_level, od_is_level, .func (PySem.W.fnOf "is_level" "is_level" (defArgs s_is_level) (defBody s_is_level) (defScope s_is_level) .none kV_is_level dc_is_level pm_is_level an_is_level cd_is_level ct_is_level), sl_is_level⟩)
    (c_is_level : PySem.W.codeIn K cd_is_level "is_level" = true)
    (k_is_level : PySem.W.keepIn K (.ref f_is_level) = true)
    (a_look_hearer : PySem.W.nsIn K mainGlobals "look_hearer" = some (some (.ref f_look_hearer)))
    (l_look_hearer : K.lookup f_look_hearer = some ⟨oc_look_hearer, od_look_hearer, .func (PySem.W.fnOf "look_hearer" "look_hearer" (defArgs s_look_hearer) (defBody s_look_hearer) (defScope s_look_hearer) .none kV_look_hearer dc_look_hearer pm_look_hearer an_look_hearer cd_look_hearer ct_look_hearer), sl_look_hearer⟩)
    (c_look_hearer : PySem.W.codeIn K cd_look_hearer "look_hearer" = true)
    (k_look_hearer : PySem.W.keepIn K (.ref f_look_hearer) = true)
    (a_is_wide : PySem.W.nsIn K mainGlobals "is_wide" = some (some (.ref f_is_wide)))
    (l_is_wide : K.lookup f_is_wide = some ⟨oc_is_wide, od_is_wide, .func (PySem.W.fnOf "is_wide" "is_wide" (defArgs s_is_wide) (defBody s_is_wide) (defScope s_is_wide) .none kV_is_wide dc_is_wide pm_is_wide an_is_wide cd_is_wide ct_is_wide), sl_is_wide⟩)
    (c_is_wide : PySem.W.codeIn K cd_is_wide "is_wide" = true)
    (k_is_wide : PySem.W.keepIn K (.ref f_is_wide) = true)
    (a_rules_of : PySem.W.nsIn K mainGlobals "rules_of" = some (some (.ref f_rules_of)))
    (l_rules_of : K.lookup f_rules_of = some ⟨oc_rules_of, od_rules_of, .func (PySem.W.fnOf "rules_of" "rules_of" (defArgs s_rules_of) (defBody s_rules_of) (defScope s_rules_of) .none kV_rules_of dc_rules_of pm_rules_of an_rules_of cd_rules_of ct_rules_of), sl_rules_of⟩)
    (c_rules_of : PySem.W.codeIn K cd_rules_of "rules_of" = true)
    (k_rules_of : PySem.W.keepIn K (.ref f_rules_of) = true)
    (a_is_let_here : PySem.W.nsIn K mainGlobals "is_let_here" = some (some (.ref f_is_let_here)))
    (l_is_let_here : K.lookup f_is_let_here = some ⟨oc_is_let_here, od_is_let_here, .func (PySem.W.fnOf "is_let_here" "is_let_here" (defArgs s_is_let_here) (defBody s_is_let_here) (defScope s_is_let_here) .none kV_is_let_here dc_is_let_here pm_is_let_here an_is_let_here cd_is_let_here ct_is_let_here), sl_is_let_here⟩)
    (c_is_let_here : PySem.W.codeIn K cd_is_let_here "is_let_here" = true)
    (k_is_let_here : PySem.W.keepIn K (.ref f_is_let_here) = true)
    (a_Search_init : PySem.W.findIn K (.ref C_Search) "__init__" = some (some (.ref f_Search_init)))
    (i_Search_init : PySem.W.isFn K (.ref f_Search_init) = true)
    (l_Search_init : K.lookup f_Search_init = some ⟨oc_Search_init, od_Search_init, .func (PySem.W.fnOf "__init__" "Search.__init__" (defArgs s_Search_init) (defBody s_Search_init) (defScope s_Search_init) .none kV_Search_init dc_Search_init pm_Search_init an_Search_init cd_Search_init ct_Search_init), sl_Search_init⟩)
    (c_Search_init : PySem.W.codeIn K cd_Search_init "Search.__init__" = true)
    (k_Search_init : PySem.W.keepIn K (.ref f_Search_init) = true)
    (a_law_cell : PySem.W.nsIn K mainGlobals "_law_cell" = some (some (.ref f_law_cell)))
    (l_law_cell : K.lookup f_law_cell = some ⟨oc_law_cell, od_law_cell, .func (PySem.W.fnOf "_law_cell" "_law_cell" (defArgs s_law_cell) (defBody s_law_cell) (defScope s_law_cell) .none kV_law_cell dc_law_cell pm_law_cell an_law_cell cd_law_cell ct_law_cell), sl_law_cell⟩)
    (c_law_cell : PySem.W.codeIn K cd_law_cell "_law_cell" = true)
    (k_law_cell : PySem.W.keepIn K (.ref f_law_cell) = true)
    (a_law_refusal : PySem.W.nsIn K mainGlobals "_law_refusal" = some (some (.ref f_law_refusal)))
    (l_law_refusal : K.lookup f_law_refusal = some ⟨oc_law_refusal, od_law_refusal, .func (PySem.W.fnOf "_law_refusal" "_law_refusal" (defArgs s_law_refusal) (defBody s_law_refusal) (defScope s_law_refusal) .none kV_law_refusal dc_law_refusal pm_law_refusal an_law_refusal cd_law_refusal ct_law_refusal), sl_law_refusal⟩)
    (c_law_refusal : PySem.W.codeIn K cd_law_refusal "_law_refusal" = true)
    (k_law_refusal : PySem.W.keepIn K (.ref f_law_refusal) = true)
    (a_law_is_level : PySem.W.nsIn K mainGlobals "_law_is_level" = some (some (.ref f_law_is_level)))
    (l_law_is_level : K.lookup f_law_is_level = some ⟨oc_law_is_level, od_law_is_level, .func (PySem.W.fnOf "_law_is_level" "_law_is_level" (defArgs s_law_is_level) (defBody s_law_is_level) (defScope s_law_is_level) .none kV_law_is_level dc_law_is_level pm_law_is_level an_law_is_level cd_law_is_level ct_law_is_level), sl_law_is_level⟩)
    (c_law_is_level : PySem.W.codeIn K cd_law_is_level "_law_is_level" = true)
    (k_law_is_level : PySem.W.keepIn K (.ref f_law_is_level) = true)
    (a_law_fits : PySem.W.nsIn K mainGlobals "_law_fits" = some (some (.ref f_law_fits)))
    (l_law_fits : K.lookup f_law_fits = some ⟨oc_law_fits, od_law_fits, .func (PySem.W.fnOf "_law_fits" "_law_fits" (defArgs s_law_fits) (defBody s_law_fits) (defScope s_law_fits) .none kV_law_fits dc_law_fits pm_law_fits an_law_fits cd_law_fits ct_law_fits), sl_law_fits⟩)
    (c_law_fits : PySem.W.codeIn K cd_law_fits "_law_fits" = true)
    (k_law_fits : PySem.W.keepIn K (.ref f_law_fits) = true)
    (a_law_names : PySem.W.nsIn K mainGlobals "_law_names" = some (some (.ref f_law_names)))
    (l_law_names : K.lookup f_law_names = some ⟨oc_law_names, od_law_names, .func (PySem.W.fnOf "_law_names" "_law_names" (defArgs s_law_names) (defBody s_law_names) (defScope s_law_names) .none kV_law_names dc_law_names pm_law_names an_law_names cd_law_names ct_law_names), sl_law_names⟩)
    (c_law_names : PySem.W.codeIn K cd_law_names "_law_names" = true)
    (k_law_names : PySem.W.keepIn K (.ref f_law_names) = true)
    (a_look_name : PySem.W.nsIn K mainGlobals "look_name" = some (some (.ref f_look_name)))
    (l_look_name : K.lookup f_look_name = some ⟨oc_look_name, od_look_name, .func (PySem.W.fnOf "look_name" "look_name" (defArgs s_look_name) (defBody s_look_name) (defScope s_look_name) .none kV_look_name dc_look_name pm_look_name an_look_name cd_look_name ct_look_name), sl_look_name⟩)
    (c_look_name : PySem.W.codeIn K cd_look_name "look_name" = true)
    (k_look_name : PySem.W.keepIn K (.ref f_look_name) = true)
    (a_look_wish : PySem.W.nsIn K mainGlobals "look_wish" = some (some (.ref f_look_wish)))
    (l_look_wish : K.lookup f_look_wish = some ⟨oc_look_wish, od_look_wish, .func (PySem.W.fnOf "look_wish" "look_wish" (defArgs s_look_wish) (defBody s_look_wish) (defScope s_look_wish) .none kV_look_wish dc_look_wish pm_look_wish an_look_wish cd_look_wish ct_look_wish), sl_look_wish⟩)
    (c_look_wish : PySem.W.codeIn K cd_look_wish "look_wish" = true)
    (k_look_wish : PySem.W.keepIn K (.ref f_look_wish) = true)
    (a_stepped : PySem.W.nsIn K mainGlobals "stepped" = some (some (.ref f_stepped)))
    (l_stepped : K.lookup f_stepped = some ⟨oc_stepped, od_stepped, .func (PySem.W.fnOf "stepped" "stepped" (defArgs s_stepped) (defBody s_stepped) (defScope s_stepped) .none kV_stepped dc_stepped pm_stepped an_stepped cd_stepped ct_stepped), sl_stepped⟩)
    (c_stepped : PySem.W.codeIn K cd_stepped "stepped" = true)
    (k_stepped : PySem.W.keepIn K (.ref f_stepped) = true)
    (a_choices : PySem.W.nsIn K mainGlobals "choices" = some (some (.ref f_choices)))
    (l_choices : K.lookup f_choices = some ⟨oc_choices, od_choices, .func (PySem.W.fnOf "choices" "choices" (defArgs s_choices) (defBody s_choices) (defScope s_choices) .none kV_choices dc_choices pm_choices an_choices cd_choices ct_choices), sl_choices⟩)
    (c_choices : PySem.W.codeIn K cd_choices "choices" = true)
    (k_choices : PySem.W.keepIn K (.ref f_choices) = true)
    (a_law_mix : PySem.W.nsIn K mainGlobals "_law_mix" = some (some (.ref f_law_mix)))
    (l_law_mix : K.lookup f_law_mix = some ⟨oc_law_mix, od_law_mix, .func (PySem.W.fnOf "_law_mix" "_law_mix" (defArgs s_law_mix) (defBody s_law_mix) (defScope s_law_mix) .none kV_law_mix dc_law_mix pm_law_mix an_law_mix cd_law_mix ct_law_mix), sl_law_mix⟩)
    (c_law_mix : PySem.W.codeIn K cd_law_mix "_law_mix" = true)
    (k_law_mix : PySem.W.keepIn K (.ref f_law_mix) = true)
    (a_law_is_name : PySem.W.nsIn K mainGlobals "_law_is_name" = some (some (.ref f_law_is_name)))
    (l_law_is_name : K.lookup f_law_is_name = some ⟨oc_law_is_name, od_law_is_name, .func (PySem.W.fnOf "_law_is_name" "_law_is_name" (defArgs s_law_is_name) (defBody s_law_is_name) (defScope s_law_is_name) .none kV_law_is_name dc_law_is_name pm_law_is_name an_law_is_name cd_law_is_name ct_law_is_name), sl_law_is_name⟩)
    (c_law_is_name : PySem.W.codeIn K cd_law_is_name "_law_is_name" = true)
    (k_law_is_name : PySem.W.keepIn K (.ref f_law_is_name) = true)
    (a_law_lets : PySem.W.nsIn K mainGlobals "_law_lets" = some (some (.ref f_law_lets)))
    (l_law_lets : K.lookup f_law_lets = some ⟨oc_law_lets, od_law_lets, .func (PySem.W.fnOf "_law_lets" "_law_lets" (defArgs s_law_lets) (defBody s_law_lets) (defScope s_law_lets) .none kV_law_lets dc_law_lets pm_law_lets an_law_lets cd_law_lets ct_law_lets), sl_law_lets⟩)
    (c_law_lets : PySem.W.codeIn K cd_law_lets "_law_lets" = true)
    (k_law_lets : PySem.W.keepIn K (.ref f_law_lets) = true)
    (a_Search_found : PySem.W.findIn K (.ref C_Search) "found" = some (some (.ref f_Search_found)))
    (i_Search_found : PySem.W.isFn K (.ref f_Search_found) = true)
    (l_Search_found : K.lookup f_Search_found = some ⟨oc_Search_found, od_Search_found, .func (PySem.W.fnOf "found" "Search.found" (defArgs s_Search_found) (defBody s_Search_found) (defScope s_Search_found) .none kV_Search_found dc_Search_found pm_Search_found an_Search_found cd_Search_found ct_Search_found), sl_Search_found⟩)
    (c_Search_found : PySem.W.codeIn K cd_Search_found "Search.found" = true)
    (k_Search_found : PySem.W.keepIn K (.ref f_Search_found) = true)
    (a_look_rules : PySem.W.nsIn K mainGlobals "look_rules" = some (some (.ref f_look_rules)))
    (l_look_rules : K.lookup f_look_rules = some ⟨oc_look_rules, od_look_rules, .func (PySem.W.fnOf "look_rules" "look_rules" (defArgs s_look_rules) (defBody s_look_rules) (defScope s_look_rules) .none kV_look_rules dc_look_rules pm_look_rules an_look_rules cd_look_rules ct_look_rules), sl_look_rules⟩)
    (c_look_rules : PySem.W.codeIn K cd_look_rules "look_rules" = true)
    (k_look_rules : PySem.W.keepIn K (.ref f_look_rules) = true)
    (a_law_draw : PySem.W.nsIn K mainGlobals "_law_draw" = some (some (.ref f_law_draw)))
    (l_law_draw : K.lookup f_law_draw = some ⟨oc_law_draw, od_law_draw, .func (PySem.W.fnOf "_law_draw" "_law_draw" (defArgs s_law_draw) (defBody s_law_draw) (defScope s_law_draw) .none kV_law_draw dc_law_draw pm_law_draw an_law_draw cd_law_draw ct_law_draw), sl_law_draw⟩)
    (c_law_draw : PySem.W.codeIn K cd_law_draw "_law_draw" = true)
    (k_law_draw : PySem.W.keepIn K (.ref f_law_draw) = true)
    (a_law_pick : PySem.W.nsIn K mainGlobals "_law_pick" = some (some (.ref f_law_pick)))
    (l_law_pick : K.lookup f_law_pick = some ⟨oc_law_pick, od_law_pick, .func (PySem.W.fnOf "_law_pick" "_law_pick" (defArgs s_law_pick) (defBody s_law_pick) (defScope s_law_pick) .none kV_law_pick dc_law_pick pm_law_pick an_law_pick cd_law_pick ct_law_pick), sl_law_pick⟩)
    (c_law_pick : PySem.W.codeIn K cd_law_pick "_law_pick" = true)
    (k_law_pick : PySem.W.keepIn K (.ref f_law_pick) = true)
    (a_law_rules : PySem.W.nsIn K mainGlobals "_law_rules" = some (some (.ref f_law_rules)))
    (l_law_rules : K.lookup f_law_rules = some ⟨oc_law_rules, od_law_rules, .func (PySem.W.fnOf "_law_rules" "_law_rules" (defArgs s_law_rules) (defBody s_law_rules) (defScope s_law_rules) .none kV_law_rules dc_law_rules pm_law_rules an_law_rules cd_law_rules ct_law_rules), sl_law_rules⟩)
    (c_law_rules : PySem.W.codeIn K cd_law_rules "_law_rules" = true)
    (k_law_rules : PySem.W.keepIn K (.ref f_law_rules) = true)
    (a_fits_levels : PySem.W.nsIn K mainGlobals "fits_levels" = some (some (.ref f_fits_levels)))
    (l_fits_levels : K.lookup f_fits_levels = some ⟨oc_fits_levels, od_fits_levels, .func (PySem.W.fnOf "fits_levels" "fits_levels" (defArgs s_fits_levels) (defBody s_fits_levels) (defScope s_fits_levels) .none kV_fits_levels dc_fits_levels pm_fits_levels an_fits_levels cd_fits_levels ct_fits_levels), sl_fits_levels⟩)
    (c_fits_levels : PySem.W.codeIn K cd_fits_levels "fits_levels" = true)
    (k_fits_levels : PySem.W.keepIn K (.ref f_fits_levels) = true)
    (a_fits : PySem.W.nsIn K mainGlobals "fits" = some (some (.ref f_fits)))
    (l_fits : K.lookup f_fits = some ⟨oc_fits, od_fits, .func (PySem.W.fnOf "fits" "fits" (defArgs s_fits) (defBody s_fits) (defScope s_fits) .none kV_fits dc_fits pm_fits an_fits cd_fits ct_fits), sl_fits⟩)
    (c_fits : PySem.W.codeIn K cd_fits "fits" = true)
    (k_fits : PySem.W.keepIn K (.ref f_fits) = true)
    (a_may_say : PySem.W.nsIn K mainGlobals "may_say" = some (some (.ref f_may_say)))
    (l_may_say : K.lookup f_may_say = some ⟨oc_may_say, od_may_say, .func (PySem.W.fnOf "may_say" "may_say" (defArgs s_may_say) (defBody s_may_say) (defScope s_may_say) .none kV_may_say dc_may_say pm_may_say an_may_say cd_may_say ct_may_say), sl_may_say⟩)
    (c_may_say : PySem.W.codeIn K cd_may_say "may_say" = true)
    (k_may_say : PySem.W.keepIn K (.ref f_may_say) = true)
    (a_Search_go : PySem.W.findIn K (.ref C_Search) "go" = some (some (.ref f_Search_go)))
    (i_Search_go : PySem.W.isFn K (.ref f_Search_go) = true)
    (l_Search_go : K.lookup f_Search_go = some ⟨oc_Search_go, od_Search_go, .func (PySem.W.fnOf "go" "Search.go" (defArgs s_Search_go) (defBody s_Search_go) (defScope s_Search_go) .none kV_Search_go dc_Search_go pm_Search_go an_Search_go cd_Search_go ct_Search_go), sl_Search_go⟩)
    (c_Search_go : PySem.W.codeIn K cd_Search_go "Search.go" = true)
    (k_Search_go : PySem.W.keepIn K (.ref f_Search_go) = true)
    (a_may_hear : PySem.W.nsIn K mainGlobals "may_hear" = some (some (.ref f_may_hear)))
    (l_may_hear : K.lookup f_may_hear = some ⟨oc_may_hear, od_may_hear, .func (PySem.W.fnOf "may_hear" "may_hear" (defArgs s_may_hear) (defBody s_may_hear) (defScope s_may_hear) .none kV_may_hear dc_may_hear pm_may_hear an_may_hear cd_may_hear ct_may_hear), sl_may_hear⟩)
    (c_may_hear : PySem.W.codeIn K cd_may_hear "may_hear" = true)
    (k_may_hear : PySem.W.keepIn K (.ref f_may_hear) = true)
    (a_law_told : PySem.W.nsIn K mainGlobals "_law_told" = some (some (.ref f_law_told)))
    (l_law_told : K.lookup f_law_told = some ⟨oc_law_told, od_law_told, .func (PySem.W.fnOf "_law_told" "_law_told" (defArgs s_law_told) (defBody s_law_told) (defScope s_law_told) .none kV_law_told dc_law_told pm_law_told an_law_told cd_law_told ct_law_told), sl_law_told⟩)
    (c_law_told : PySem.W.codeIn K cd_law_told "_law_told" = true)
    (k_law_told : PySem.W.keepIn K (.ref f_law_told) = true)
    (a_law_good : PySem.W.nsIn K mainGlobals "_law_good" = some (some (.ref f_law_good)))
    (l_law_good : K.lookup f_law_good = some ⟨oc_law_good, od_law_good, .func (PySem.W.fnOf "_law_good" "_law_good" (defArgs s_law_good) (defBody s_law_good) (defScope s_law_good) .none kV_law_good dc_law_good pm_law_good an_law_good cd_law_good ct_law_good), sl_law_good⟩)
    (c_law_good : PySem.W.codeIn K cd_law_good "_law_good" = true)
    (k_law_good : PySem.W.keepIn K (.ref f_law_good) = true)
    (a_law : PySem.W.nsIn K mainGlobals "law" = some (some (.ref f_law)))
    (l_law : K.lookup f_law = some ⟨oc_law, od_law, .func (PySem.W.fnOf "law" "law" (defArgs s_law) (defBody s_law) (defScope s_law) .none kV_law dc_law pm_law an_law cd_law ct_law), sl_law⟩)
    (c_law : PySem.W.codeIn K cd_law "law" = true)
    (k_law : PySem.W.keepIn K (.ref f_law) = true)
    (pg_Search : PySem.W.plainGet K C_Search Str.empty = true)
    (hd_Search : PySem.W.hasDictIn K C_Search = true)
    (po_Search : PySem.W.plainOver K C_Search = true)
    (sa_Search : PySem.W.findIn K (.ref C_Search) "__setattr__" = some (some (.builtin "object.__setattr__")))
    (mk_Search : PySem.W.makesIn K C_Search = true)
    (n_Search_known : PySem.W.findIn K (.ref C_Search) "known" = some none)
    (x_TidingError : PySem.W.excIn K C_TidingError [.type "ValueError", .type "Exception", .type "BaseException", .type "object"] "ValueError.__new__" = true)
    (b_TidingError : PySem.W.subIn K (.ref C_TidingError) (.type "BaseException") = some true)
    (t_TidingError : PySem.W.typeIn K (.ref C_TidingError) = some (.type "type"))
    (x_BadName : PySem.W.excIn K C_BadName [.type "ValueError", .type "Exception", .type "BaseException", .type "object"] "ValueError.__new__" = true)
    (b_BadName : PySem.W.subIn K (.ref C_BadName) (.type "BaseException") = some true)
    (t_BadName : PySem.W.typeIn K (.ref C_BadName) = some (.type "type"))
    (x_BadPacket : PySem.W.excIn K C_BadPacket [.type "ValueError", .type "Exception", .type "BaseException", .type "object"] "ValueError.__new__" = true)
    (b_BadPacket : PySem.W.subIn K (.ref C_BadPacket) (.type "BaseException") = some true)
    (t_BadPacket : PySem.W.typeIn K (.ref C_BadPacket) = some (.type "type"))
    (x_BadBytes : PySem.W.excIn K C_BadBytes [.type "ValueError", .type "Exception", .type "BaseException", .type "object"] "ValueError.__new__" = true)
    (b_BadBytes : PySem.W.subIn K (.ref C_BadBytes) (.type "BaseException") = some true)
    (t_BadBytes : PySem.W.typeIn K (.ref C_BadBytes) = some (.type "type"))
    (x_BadLine : PySem.W.excIn K C_BadLine [.type "ValueError", .type "Exception", .type "BaseException", .type "object"] "ValueError.__new__" = true)
    (b_BadLine : PySem.W.subIn K (.ref C_BadLine) (.type "BaseException") = some true)
    (t_BadLine : PySem.W.typeIn K (.ref C_BadLine) = some (.type "type"))
    (x_BadText : PySem.W.excIn K C_BadText [.type "ValueError", .type "Exception", .type "BaseException", .type "object"] "ValueError.__new__" = true)
    (b_BadText : PySem.W.subIn K (.ref C_BadText) (.type "BaseException") = some true)
    (t_BadText : PySem.W.typeIn K (.ref C_BadText) = some (.type "type"))
    (zm_TidingError_TidingError : PySem.W.exmOne K (.ref C_TidingError) (.ref C_TidingError) = some true)
    (zm_BadName_TidingError : PySem.W.exmOne K (.ref C_BadName) (.ref C_TidingError) = some true)
    (zm_BadPacket_TidingError : PySem.W.exmOne K (.ref C_BadPacket) (.ref C_TidingError) = some true)
    (zm_BadBytes_TidingError : PySem.W.exmOne K (.ref C_BadBytes) (.ref C_TidingError) = some true)
    (zm_BadLine_TidingError : PySem.W.exmOne K (.ref C_BadLine) (.ref C_TidingError) = some true)
    (zm_BadText_TidingError : PySem.W.exmOne K (.ref C_BadText) (.ref C_TidingError) = some true)
    (hn0 : PySem.W.specialIn K (.builtin "object.__class__") "__get__" = some (some (.builtin "getset_descriptor.__get__")))
    (ht0 : PySem.W.takesIn K (.builtin "object.__class__") = some true)
    (e1_TidingError : PySem.W.findIn K (.ref C_TidingError) "__getattribute__" = some (some (.builtin "BaseException.__getattribute__")))
    (e2_TidingError : PySem.W.findIn K (.ref C_TidingError) "__getattr__" = some none)
    (e3_TidingError : PySem.W.hasDictIn K C_TidingError = true)
    (e4_TidingError : PySem.W.findIn K (.ref C_TidingError) "__class__" = some (some (.builtin "object.__class__")))
    (e5_TidingError : PySem.W.mroIn K C_TidingError (.type "object") = some true)
    (e1_BadName : PySem.W.findIn K (.ref C_BadName) "__getattribute__" = some (some (.builtin "BaseException.__getattribute__")))
    (e2_BadName : PySem.W.findIn K (.ref C_BadName) "__getattr__" = some none)
    (e3_BadName : PySem.W.hasDictIn K C_BadName = true)
    (e4_BadName : PySem.W.findIn K (.ref C_BadName) "__class__" = some (some (.builtin "object.__class__")))
    (e5_BadName : PySem.W.mroIn K C_BadName (.type "object") = some true)
    (e1_BadPacket : PySem.W.findIn K (.ref C_BadPacket) "__getattribute__" = some (some (.builtin "BaseException.__getattribute__")))
    (e2_BadPacket : PySem.W.findIn K (.ref C_BadPacket) "__getattr__" = some none)
    (e3_BadPacket : PySem.W.hasDictIn K C_BadPacket = true)
    (e4_BadPacket : PySem.W.findIn K (.ref C_BadPacket) "__class__" = some (some (.builtin "object.__class__")))
    (e5_BadPacket : PySem.W.mroIn K C_BadPacket (.type "object") = some true)
    (e1_BadBytes : PySem.W.findIn K (.ref C_BadBytes) "__getattribute__" = some (some (.builtin "BaseException.__getattribute__")))
    (e2_BadBytes : PySem.W.findIn K (.ref C_BadBytes) "__getattr__" = some none)
    (e3_BadBytes : PySem.W.hasDictIn K C_BadBytes = true)
    (e4_BadBytes : PySem.W.findIn K (.ref C_BadBytes) "__class__" = some (some (.builtin "object.__class__")))
    (e5_BadBytes : PySem.W.mroIn K C_BadBytes (.type "object") = some true)
    (e1_BadLine : PySem.W.findIn K (.ref C_BadLine) "__getattribute__" = some (some (.builtin "BaseException.__getattribute__")))
    (e2_BadLine : PySem.W.findIn K (.ref C_BadLine) "__getattr__" = some none)
    (e3_BadLine : PySem.W.hasDictIn K C_BadLine = true)
    (e4_BadLine : PySem.W.findIn K (.ref C_BadLine) "__class__" = some (some (.builtin "object.__class__")))
    (e5_BadLine : PySem.W.mroIn K C_BadLine (.type "object") = some true)
    (e1_BadText : PySem.W.findIn K (.ref C_BadText) "__getattribute__" = some (some (.builtin "BaseException.__getattribute__")))
    (e2_BadText : PySem.W.findIn K (.ref C_BadText) "__getattr__" = some none)
    (e3_BadText : PySem.W.hasDictIn K C_BadText = true)
    (e4_BadText : PySem.W.findIn K (.ref C_BadText) "__class__" = some (some (.builtin "object.__class__")))
    (e5_BadText : PySem.W.mroIn K C_BadText (.type "object") = some true)
    (zk_TidingError_BadName : PySem.W.kitOne K (.ref C_TidingError) (.ref C_BadName) = some false)
    (zk_BadName_BadName : PySem.W.kitOne K (.ref C_BadName) (.ref C_BadName) = some true)
    (zk_BadPacket_BadName : PySem.W.kitOne K (.ref C_BadPacket) (.ref C_BadName) = some false)
    (zk_BadBytes_BadName : PySem.W.kitOne K (.ref C_BadBytes) (.ref C_BadName) = some false)
    (zk_BadLine_BadName : PySem.W.kitOne K (.ref C_BadLine) (.ref C_BadName) = some false)
    (zk_BadText_BadName : PySem.W.kitOne K (.ref C_BadText) (.ref C_BadName) = some false)
    (zk_TidingError_BadPacket : PySem.W.kitOne K (.ref C_TidingError) (.ref C_BadPacket) = some false)
    (zk_BadName_BadPacket : PySem.W.kitOne K (.ref C_BadName) (.ref C_BadPacket) = some false)
    (zk_BadPacket_BadPacket : PySem.W.kitOne K (.ref C_BadPacket) (.ref C_BadPacket) = some true)
    (zk_BadBytes_BadPacket : PySem.W.kitOne K (.ref C_BadBytes) (.ref C_BadPacket) = some false)
    (zk_BadLine_BadPacket : PySem.W.kitOne K (.ref C_BadLine) (.ref C_BadPacket) = some false)
    (zk_BadText_BadPacket : PySem.W.kitOne K (.ref C_BadText) (.ref C_BadPacket) = some false)
    (zk_TidingError_BadBytes : PySem.W.kitOne K (.ref C_TidingError) (.ref C_BadBytes) = some false)
    (zk_BadName_BadBytes : PySem.W.kitOne K (.ref C_BadName) (.ref C_BadBytes) = some false)
    (zk_BadPacket_BadBytes : PySem.W.kitOne K (.ref C_BadPacket) (.ref C_BadBytes) = some false)
    (zk_BadBytes_BadBytes : PySem.W.kitOne K (.ref C_BadBytes) (.ref C_BadBytes) = some true)
    (zk_BadLine_BadBytes : PySem.W.kitOne K (.ref C_BadLine) (.ref C_BadBytes) = some false)
    (zk_BadText_BadBytes : PySem.W.kitOne K (.ref C_BadText) (.ref C_BadBytes) = some false)
    (zk_TidingError_BadLine : PySem.W.kitOne K (.ref C_TidingError) (.ref C_BadLine) = some false)
    (zk_BadName_BadLine : PySem.W.kitOne K (.ref C_BadName) (.ref C_BadLine) = some false)
    (zk_BadPacket_BadLine : PySem.W.kitOne K (.ref C_BadPacket) (.ref C_BadLine) = some false)
    (zk_BadBytes_BadLine : PySem.W.kitOne K (.ref C_BadBytes) (.ref C_BadLine) = some false)
    (zk_BadLine_BadLine : PySem.W.kitOne K (.ref C_BadLine) (.ref C_BadLine) = some true)
    (zk_BadText_BadLine : PySem.W.kitOne K (.ref C_BadText) (.ref C_BadLine) = some false)
    (zk_TidingError_BadText : PySem.W.kitOne K (.ref C_TidingError) (.ref C_BadText) = some false)
    (zk_BadName_BadText : PySem.W.kitOne K (.ref C_BadName) (.ref C_BadText) = some false)
    (zk_BadPacket_BadText : PySem.W.kitOne K (.ref C_BadPacket) (.ref C_BadText) = some false)
    (zk_BadBytes_BadText : PySem.W.kitOne K (.ref C_BadBytes) (.ref C_BadText) = some false)
    (zk_BadLine_BadText : PySem.W.kitOne K (.ref C_BadLine) (.ref C_BadText) = some false)
    (zk_BadText_BadText : PySem.W.kitOne K (.ref C_BadText) (.ref C_BadText) = some true)
    (zk_TidingError_ValueError : PySem.W.kitOne K (.ref C_TidingError) (.type "ValueError") = some true)
    (zk_BadName_ValueError : PySem.W.kitOne K (.ref C_BadName) (.type "ValueError") = some true)
    (zk_BadPacket_ValueError : PySem.W.kitOne K (.ref C_BadPacket) (.type "ValueError") = some true)
    (zk_BadBytes_ValueError : PySem.W.kitOne K (.ref C_BadBytes) (.type "ValueError") = some true)
    (zk_BadLine_ValueError : PySem.W.kitOne K (.ref C_BadLine) (.type "ValueError") = some true)
    (zk_BadText_ValueError : PySem.W.kitOne K (.ref C_BadText) (.type "ValueError") = some true)
    (n_ValueError : PySem.W.nsIn K mainGlobals "ValueError" = some none)
    (n_all : PySem.W.nsIn K mainGlobals "all" = some none)
    (n_bool : PySem.W.nsIn K mainGlobals "bool" = some none)
    (n_isinstance : PySem.W.nsIn K mainGlobals "isinstance" = some none)
    (n_len : PySem.W.nsIn K mainGlobals "len" = some none)
    (n_list : PySem.W.nsIn K mainGlobals "list" = some none)
    (n_ord : PySem.W.nsIn K mainGlobals "ord" = some none)
    (n_range : PySem.W.nsIn K mainGlobals "range" = some none)
    (n_set : PySem.W.nsIn K mainGlobals "set" = some none)
    (n_sorted : PySem.W.nsIn K mainGlobals "sorted" = some none)
    (n_str : PySem.W.nsIn K mainGlobals "str" = some none)
    (n_tuple : PySem.W.nsIn K mainGlobals "tuple" = some none)
    (v_MOST_LEVELS : PySem.W.nsIn K mainGlobals "MOST_LEVELS" = some (some (.int 8 t_MOST_LEVELS)))
    (v_MOST_SIGNS : PySem.W.nsIn K mainGlobals "MOST_SIGNS" = some (some (.int 12 t_MOST_SIGNS)))
    (v_SMALL : PySem.W.nsIn K mainGlobals "SMALL" = some (some (.str (Str.ofString "abcdefghijklmnopqrstuvwxyz0123456789") t_SMALL)))
    (v_MOST_RULES : PySem.W.nsIn K mainGlobals "MOST_RULES" = some (some (.int 12 t_MOST_RULES)))
    (v_FRESH : PySem.W.nsIn K mainGlobals "FRESH" = some (some (.str (Str.ofString "abcdefghijklmnopqrstuvwxyz") t_FRESH))) :
    ∃ fd : FuncData, (∀ (s : Shared) (v : Value), BindsTo s fd ⟨[v], []⟩ [("script", v)]) ∧ ∀ base : Heap, K.In base → base.Ns mainGlobals mg → FnOk l.prog w K mg base (cxt true l.prog w) 31 fa fd ["script"] (spD ⟨K, mg, J, w⟩ 1 m_law) := by
  have e : fa = f_law := by
    have z := hfa.symm.trans (PySem.W.mg_of X G a_law)
    cases z
    rfl
  rw [e]
  have F_is_level := fun_mk (st := s_is_level) l_is_level c_is_level k_is_level
  have B_is_level := F_is_level.binds (ps := ["level"]) fun _ _ _ _ _ _ us hl => match us, hl with | [_], _ => rfl
  have F_look_hearer := fun_mk (st := s_look_hearer) l_look_hearer c_look_hearer k_look_hearer
  have B_look_hearer := F_look_hearer.binds (ps := ["hearer"]) fun _ _ _ _ _ _ us hl => match us, hl with | [_], _ => rfl
  have F_is_wide := fun_mk (st := s_is_wide) l_is_wide c_is_wide k_is_wide
  have B_is_wide := F_is_wide.binds (ps := ["level"]) fun _ _ _ _ _ _ us hl => match us, hl with | [_], _ => rfl
  have F_rules_of := fun_mk (st := s_rules_of) l_rules_of c_rules_of k_rules_of
  have B_rules_of := F_rules_of.binds (ps := ["rules", "hearer", "word"]) fun _ _ _ _ _ _ us hl => match us, hl with | [_, _, _], _ => rfl
  have F_is_let_here := fun_mk (st := s_is_let_here) l_is_let_here c_is_let_here k_is_let_here
  have B_is_let_here := F_is_let_here.binds (ps := ["rules"]) fun _ _ _ _ _ _ us hl => match us, hl with | [_], _ => rfl
  have F_Search_init := fun_mk (st := s_Search_init) l_Search_init c_Search_init k_Search_init
  have B_Search_init := F_Search_init.binds (ps := ["self"]) fun _ _ _ _ _ _ us hl => match us, hl with | [_], _ => rfl
  have F_law_cell := fun_mk (st := s_law_cell) l_law_cell c_law_cell k_law_cell
  have B_law_cell := F_law_cell.binds (ps := ["script", "k"]) fun _ _ _ _ _ _ us hl => match us, hl with | [_, _], _ => rfl
  have F_law_refusal := fun_mk (st := s_law_refusal) l_law_refusal c_law_refusal k_law_refusal
  have B_law_refusal := F_law_refusal.binds (ps := ["held"]) fun _ _ _ _ _ _ us hl => match us, hl with | [_], _ => rfl
  have F_law_is_level := fun_mk (st := s_law_is_level) l_law_is_level c_law_is_level k_law_is_level
  have B_law_is_level := F_law_is_level.binds (ps := ["level"]) fun _ _ _ _ _ _ us hl => match us, hl with | [_], _ => rfl
  have F_law_fits := fun_mk (st := s_law_fits) l_law_fits c_law_fits k_law_fits
  have B_law_fits := F_law_fits.binds (ps := ["wish", "name"]) fun _ _ _ _ _ _ us hl => match us, hl with | [_, _], _ => rfl
  have F_law_names := fun_mk (st := s_law_names) l_law_names c_law_names k_law_names
  have B_law_names := F_law_names.binds (ps := []) fun _ _ _ _ _ _ us hl => match us, hl with | [], _ => rfl
  have F_look_name := fun_mk (st := s_look_name) l_look_name c_look_name k_look_name
  have B_look_name := F_look_name.binds (ps := ["name"]) fun _ _ _ _ _ _ us hl => match us, hl with | [_], _ => rfl
  have F_look_wish := fun_mk (st := s_look_wish) l_look_wish c_look_wish k_look_wish
  have B_look_wish := F_look_wish.binds (ps := ["wish"]) fun _ _ _ _ _ _ us hl => match us, hl with | [_], _ => rfl
  have F_stepped := fun_mk (st := s_stepped) l_stepped c_stepped k_stepped
  have B_stepped := F_stepped.binds (ps := ["rules", "level", "is_first"]) fun _ _ _ _ _ _ us hl => match us, hl with | [_, _, _], _ => rfl
  have F_choices := fun_mk (st := s_choices) l_choices c_choices k_choices
  have B_choices := F_choices.binds (ps := ["wished", "rules", "is_first"]) fun _ _ _ _ _ _ us hl => match us, hl with | [_, _, _], _ => rfl
  have F_law_mix := fun_mk (st := s_law_mix) l_law_mix c_law_mix k_law_mix
  have B_law_mix := F_law_mix.binds (ps := ["script", "k"]) fun _ _ _ _ _ _ us hl => match us, hl with | [_, _], _ => rfl
  have F_law_is_name := fun_mk (st := s_law_is_name) l_law_is_name c_law_is_name k_law_is_name
  have B_law_is_name := F_law_is_name.binds (ps := ["name"]) fun _ _ _ _ _ _ us hl => match us, hl with | [_], _ => rfl
  have F_law_lets := fun_mk (st := s_law_lets) l_law_lets c_law_lets k_law_lets
  have B_law_lets := F_law_lets.binds (ps := ["rules", "hearer", "word", "name"]) fun _ _ _ _ _ _ us hl => match us, hl with | [_, _, _, _], _ => rfl
  have F_Search_found := fun_mk (st := s_Search_found) l_Search_found c_Search_found k_Search_found
  have B_Search_found := F_Search_found.binds (ps := ["self", "wished", "rules", "levels"]) fun _ _ _ _ _ _ us hl => match us, hl with | [_, _, _, _], _ => rfl
  have F_look_rules := fun_mk (st := s_look_rules) l_look_rules c_look_rules k_look_rules
  have B_look_rules := F_look_rules.binds (ps := ["rules"]) fun _ _ _ _ _ _ us hl => match us, hl with | [_], _ => rfl
  have F_law_draw := fun_mk (st := s_law_draw) l_law_draw c_law_draw k_law_draw
  have B_law_draw := F_law_draw.binds (ps := ["script", "town", "many"]) fun _ _ _ _ _ _ us hl => match us, hl with | [_, _, _], _ => rfl
  have F_law_pick := fun_mk (st := s_law_pick) l_law_pick c_law_pick k_law_pick
  have B_law_pick := F_law_pick.binds (ps := ["script", "town", "some"]) fun _ _ _ _ _ _ us hl => match us, hl with | [_, _, _], _ => rfl
  have F_law_rules := fun_mk (st := s_law_rules) l_law_rules c_law_rules k_law_rules
  have B_law_rules := F_law_rules.binds (ps := ["script", "town", "most"]) fun _ _ _ _ _ _ us hl => match us, hl with | [_, _, _], _ => rfl
  have F_fits_levels := fun_mk (st := s_fits_levels) l_fits_levels c_fits_levels k_fits_levels
  have B_fits_levels := F_fits_levels.binds (ps := ["wished", "levels"]) fun _ _ _ _ _ _ us hl => match us, hl with | [_, _], _ => rfl
  have F_fits := fun_mk (st := s_fits) l_fits c_fits k_fits
  have B_fits := F_fits.binds (ps := ["wish", "name"]) fun _ _ _ _ _ _ us hl => match us, hl with | [_, _], _ => rfl
  have F_may_say := fun_mk (st := s_may_say) l_may_say c_may_say k_may_say
  have B_may_say := F_may_say.binds (ps := ["rules", "hearer", "name"]) fun _ _ _ _ _ _ us hl => match us, hl with | [_, _, _], _ => rfl
  have F_Search_go := fun_mk (st := s_Search_go) l_Search_go c_Search_go k_Search_go
  have B_Search_go := F_Search_go.binds (ps := ["self", "wished", "rules", "levels"]) fun _ _ _ _ _ _ us hl => match us, hl with | [_, _, _, _], _ => rfl
  have F_may_hear := fun_mk (st := s_may_hear) l_may_hear c_may_hear k_may_hear
  have B_may_hear := F_may_hear.binds (ps := ["rules", "hearer", "wish"]) fun _ _ _ _ _ _ us hl => match us, hl with | [_, _, _], _ => rfl
  have F_law_told := fun_mk (st := s_law_told) l_law_told c_law_told k_law_told
  have B_law_told := F_law_told.binds (ps := ["way", "rules", "hearer", "thing"]) fun _ _ _ _ _ _ us hl => match us, hl with | [_, _, _, _], _ => rfl
  have F_law_good := fun_mk (st := s_law_good) l_law_good c_law_good k_law_good
  have B_law_good := F_law_good.binds (ps := ["rules", "hearer", "wish"]) fun _ _ _ _ _ _ us hl => match us, hl with | [_, _, _], _ => rfl
  have F_law := fun_mk (st := s_law) l_law c_law k_law
  have B_law := F_law.binds (ps := ["script"]) fun _ _ _ _ _ _ us hl => match us, hl with | [_], _ => rfl
  have gC_Search := PySem.W.mg_of X G aC_Search
  have K_Search : Cls K C_Search := ⟨pg_Search, hd_Search, po_Search, sa_Search⟩
  have E_TidingError : ExcC K C_TidingError := ⟨e1_TidingError, e2_TidingError, b_TidingError, e3_TidingError, e4_TidingError, hn0, ht0, e5_TidingError⟩
  have E_BadName : ExcC K C_BadName := ⟨e1_BadName, e2_BadName, b_BadName, e3_BadName, e4_BadName, hn0, ht0, e5_BadName⟩
  have E_BadPacket : ExcC K C_BadPacket := ⟨e1_BadPacket, e2_BadPacket, b_BadPacket, e3_BadPacket, e4_BadPacket, hn0, ht0, e5_BadPacket⟩
  have E_BadBytes : ExcC K C_BadBytes := ⟨e1_BadBytes, e2_BadBytes, b_BadBytes, e3_BadBytes, e4_BadBytes, hn0, ht0, e5_BadBytes⟩
  have E_BadLine : ExcC K C_BadLine := ⟨e1_BadLine, e2_BadLine, b_BadLine, e3_BadLine, e4_BadLine, hn0, ht0, e5_BadLine⟩
  have E_BadText : ExcC K C_BadText := ⟨e1_BadText, e2_BadText, b_BadText, e3_BadText, e4_BadText, hn0, ht0, e5_BadText⟩
  have T : Txt w K mg { f_is_level := f_is_level, f_look_hearer := f_look_hearer, f_is_wide := f_is_wide, f_rules_of := f_rules_of, f_is_let_here := f_is_let_here, f_Search_init := f_Search_init, f_law_cell := f_law_cell, f_law_refusal := f_law_refusal, f_law_is_level := f_law_is_level, f_law_fits := f_law_fits, f_law_names := f_law_names, f_look_name := f_look_name, f_look_wish := f_look_wish, f_stepped := f_stepped, f_choices := f_choices, f_law_mix := f_law_mix, f_law_is_name := f_law_is_name, f_law_lets := f_law_lets, f_Search_found := f_Search_found, f_look_rules := f_look_rules, f_law_draw := f_law_draw, f_law_pick := f_law_pick, f_law_rules := f_law_rules, f_fits_levels := f_fits_levels, f_fits := f_fits, f_may_say := f_may_say, f_Search_go := f_Search_go, f_may_hear := f_may_hear, f_law_told := f_law_told, f_law_good := f_law_good, f_law := f_law, C_Search := C_Search, C_TidingError := C_TidingError, C_BadName := C_BadName, C_BadPacket := C_BadPacket, C_BadBytes := C_BadBytes, C_BadLine := C_BadLine, C_BadText := C_BadText, t_MOST_LEVELS := t_MOST_LEVELS, t_MOST_SIGNS := t_MOST_SIGNS, t_SMALL := t_SMALL, t_MOST_RULES := t_MOST_RULES, t_FRESH := t_FRESH } := { d_is_level := ⟨_, F_is_level, B_is_level⟩, g_is_level := PySem.W.mg_of X G a_is_level, k_is_level := k_is_level, d_look_hearer := ⟨_, F_look_hearer, B_look_hearer⟩, g_look_hearer := PySem.W.mg_of X G a_look_hearer, k_look_hearer := k_look_hearer, d_is_wide := ⟨_, F_is_wide, B_is_wide⟩, g_is_wide := PySem.W.mg_of X G a_is_wide, k_is_wide := k_is_wide, d_rules_of := ⟨_, F_rules_of, B_rules_of⟩, g_rules_of := PySem.W.mg_of X G a_rules_of, k_rules_of := k_rules_of, d_is_let_here := ⟨_, F_is_let_here, B_is_let_here⟩, g_is_let_here := PySem.W.mg_of X G a_is_let_here, k_is_let_here := k_is_let_here, d_Search_init := ⟨_, F_Search_init, B_Search_init⟩, d_law_cell := ⟨_, F_law_cell, B_law_cell⟩, g_law_cell := PySem.W.mg_of X G a_law_cell, k_law_cell := k_law_cell, d_law_refusal := ⟨_, F_law_refusal, B_law_refusal⟩, g_law_refusal := PySem.W.mg_of X G a_law_refusal, k_law_refusal := k_law_refusal, d_law_is_level := ⟨_, F_law_is_level, B_law_is_level⟩, g_law_is_level := PySem.W.mg_of X G a_law_is_level, k_law_is_level := k_law_is_level, d_law_fits := ⟨_, F_law_fits, B_law_fits⟩, g_law_fits := PySem.W.mg_of X G a_law_fits, k_law_fits := k_law_fits, d_law_names := ⟨_, F_law_names, B_law_names⟩, g_law_names := PySem.W.mg_of X G a_law_names, k_law_names := k_law_names, d_look_name := ⟨_, F_look_name, B_look_name⟩, g_look_name := PySem.W.mg_of X G a_look_name, k_look_name := k_look_name, d_look_wish := ⟨_, F_look_wish, B_look_wish⟩, g_look_wish := PySem.W.mg_of X G a_look_wish, k_look_wish := k_look_wish, d_stepped := ⟨_, F_stepped, B_stepped⟩, g_stepped := PySem.W.mg_of X G a_stepped, k_stepped := k_stepped, d_choices := ⟨_, F_choices, B_choices⟩, g_choices := PySem.W.mg_of X G a_choices, k_choices := k_choices, d_law_mix := ⟨_, F_law_mix, B_law_mix⟩, g_law_mix := PySem.W.mg_of X G a_law_mix, k_law_mix := k_law_mix, d_law_is_name := ⟨_, F_law_is_name, B_law_is_name⟩, g_law_is_name := PySem.W.mg_of X G a_law_is_name, k_law_is_name := k_law_is_name, d_law_lets := ⟨_, F_law_lets, B_law_lets⟩, g_law_lets := PySem.W.mg_of X G a_law_lets, k_law_lets := k_law_lets, d_Search_found := ⟨_, F_Search_found, B_Search_found⟩, d_look_rules := ⟨_, F_look_rules, B_look_rules⟩, g_look_rules := PySem.W.mg_of X G a_look_rules, k_look_rules := k_look_rules, d_law_draw := ⟨_, F_law_draw, B_law_draw⟩, g_law_draw := PySem.W.mg_of X G a_law_draw, k_law_draw := k_law_draw, d_law_pick := ⟨_, F_law_pick, B_law_pick⟩, g_law_pick := PySem.W.mg_of X G a_law_pick, k_law_pick := k_law_pick, d_law_rules := ⟨_, F_law_rules, B_law_rules⟩, g_law_rules := PySem.W.mg_of X G a_law_rules, k_law_rules := k_law_rules, d_fits_levels := ⟨_, F_fits_levels, B_fits_levels⟩, g_fits_levels := PySem.W.mg_of X G a_fits_levels, k_fits_levels := k_fits_levels, d_fits := ⟨_, F_fits, B_fits⟩, g_fits := PySem.W.mg_of X G a_fits, k_fits := k_fits, d_may_say := ⟨_, F_may_say, B_may_say⟩, g_may_say := PySem.W.mg_of X G a_may_say, k_may_say := k_may_say, d_Search_go := ⟨_, F_Search_go, B_Search_go⟩, d_may_hear := ⟨_, F_may_hear, B_may_hear⟩, g_may_hear := PySem.W.mg_of X G a_may_hear, k_may_hear := k_may_hear, d_law_told := ⟨_, F_law_told, B_law_told⟩, g_law_told := PySem.W.mg_of X G a_law_told, k_law_told := k_law_told, d_law_good := ⟨_, F_law_good, B_law_good⟩, g_law_good := PySem.W.mg_of X G a_law_good, k_law_good := k_law_good, d_law := ⟨_, F_law, B_law⟩, g_law := PySem.W.mg_of X G a_law, k_law := k_law, a_Search_known := ⟨rfl, by decide +kernel, fun C h => by have e := h.symm.trans gC_Search; cases e; exact ⟨K_Search, n_Search_known⟩⟩, mk_Search := ⟨gC_Search, ⟨mk_Search, a_Search_init, i_Search_init, kC_Search⟩, by decide⟩, me_Search_found := ⟨gC_Search, by decide +kernel, K_Search, ⟨a_Search_found, i_Search_found, k_Search_found⟩⟩, me_Search_go := ⟨gC_Search, by decide +kernel, K_Search, ⟨a_Search_go, i_Search_go, k_Search_go⟩⟩, x_TidingError := x_TidingError, gc_TidingError := PySem.W.mg_of X G aC_TidingError, kc_TidingError := kC_TidingError, b_TidingError := b_TidingError, t_TidingError := t_TidingError, x_BadName := x_BadName, gc_BadName := PySem.W.mg_of X G aC_BadName, kc_BadName := kC_BadName, b_BadName := b_BadName, t_BadName := t_BadName, x_BadPacket := x_BadPacket, gc_BadPacket := PySem.W.mg_of X G aC_BadPacket, kc_BadPacket := kC_BadPacket, b_BadPacket := b_BadPacket, t_BadPacket := t_BadPacket, x_BadBytes := x_BadBytes, gc_BadBytes := PySem.W.mg_of X G aC_BadBytes, kc_BadBytes := kC_BadBytes, b_BadBytes := b_BadBytes, t_BadBytes := t_BadBytes, x_BadLine := x_BadLine, gc_BadLine := PySem.W.mg_of X G aC_BadLine, kc_BadLine := kC_BadLine, b_BadLine := b_BadLine, t_BadLine := t_BadLine, x_BadText := x_BadText, gc_BadText := PySem.W.mg_of X G aC_BadText, kc_BadText := kC_BadText, b_BadText := b_BadText, t_BadText := t_BadText, xm_TidingError := xm_cons (PySem.W.mg_of X G aC_TidingError) zm_TidingError_TidingError (xm_cons (PySem.W.mg_of X G aC_BadName) zm_BadName_TidingError (xm_cons (PySem.W.mg_of X G aC_BadPacket) zm_BadPacket_TidingError (xm_cons (PySem.W.mg_of X G aC_BadBytes) zm_BadBytes_TidingError (xm_cons (PySem.W.mg_of X G aC_BadLine) zm_BadLine_TidingError (xm_cons (PySem.W.mg_of X G aC_BadText) zm_BadText_TidingError (xm_nil)))))), xn_TidingError := xn_nil, ix_BadName := isx_cons (PySem.W.mg_of X G aC_TidingError) E_TidingError zk_TidingError_BadName (isx_cons (PySem.W.mg_of X G aC_BadName) E_BadName zk_BadName_BadName (isx_cons (PySem.W.mg_of X G aC_BadPacket) E_BadPacket zk_BadPacket_BadName (isx_cons (PySem.W.mg_of X G aC_BadBytes) E_BadBytes zk_BadBytes_BadName (isx_cons (PySem.W.mg_of X G aC_BadLine) E_BadLine zk_BadLine_BadName (isx_cons (PySem.W.mg_of X G aC_BadText) E_BadText zk_BadText_BadName (isx_nil)))))), ix_BadPacket := isx_cons (PySem.W.mg_of X G aC_TidingError) E_TidingError zk_TidingError_BadPacket (isx_cons (PySem.W.mg_of X G aC_BadName) E_BadName zk_BadName_BadPacket (isx_cons (PySem.W.mg_of X G aC_BadPacket) E_BadPacket zk_BadPacket_BadPacket (isx_cons (PySem.W.mg_of X G aC_BadBytes) E_BadBytes zk_BadBytes_BadPacket (isx_cons (PySem.W.mg_of X G aC_BadLine) E_BadLine zk_BadLine_BadPacket (isx_cons (PySem.W.mg_of X G aC_BadText) E_BadText zk_BadText_BadPacket (isx_nil)))))), ix_BadBytes := isx_cons (PySem.W.mg_of X G aC_TidingError) E_TidingError zk_TidingError_BadBytes (isx_cons (PySem.W.mg_of X G aC_BadName) E_BadName zk_BadName_BadBytes (isx_cons (PySem.W.mg_of X G aC_BadPacket) E_BadPacket zk_BadPacket_BadBytes (isx_cons (PySem.W.mg_of X G aC_BadBytes) E_BadBytes zk_BadBytes_BadBytes (isx_cons (PySem.W.mg_of X G aC_BadLine) E_BadLine zk_BadLine_BadBytes (isx_cons (PySem.W.mg_of X G aC_BadText) E_BadText zk_BadText_BadBytes (isx_nil)))))), ix_BadLine := isx_cons (PySem.W.mg_of X G aC_TidingError) E_TidingError zk_TidingError_BadLine (isx_cons (PySem.W.mg_of X G aC_BadName) E_BadName zk_BadName_BadLine (isx_cons (PySem.W.mg_of X G aC_BadPacket) E_BadPacket zk_BadPacket_BadLine (isx_cons (PySem.W.mg_of X G aC_BadBytes) E_BadBytes zk_BadBytes_BadLine (isx_cons (PySem.W.mg_of X G aC_BadLine) E_BadLine zk_BadLine_BadLine (isx_cons (PySem.W.mg_of X G aC_BadText) E_BadText zk_BadText_BadLine (isx_nil)))))), ix_BadText := isx_cons (PySem.W.mg_of X G aC_TidingError) E_TidingError zk_TidingError_BadText (isx_cons (PySem.W.mg_of X G aC_BadName) E_BadName zk_BadName_BadText (isx_cons (PySem.W.mg_of X G aC_BadPacket) E_BadPacket zk_BadPacket_BadText (isx_cons (PySem.W.mg_of X G aC_BadBytes) E_BadBytes zk_BadBytes_BadText (isx_cons (PySem.W.mg_of X G aC_BadLine) E_BadLine zk_BadLine_BadText (isx_cons (PySem.W.mg_of X G aC_BadText) E_BadText zk_BadText_BadText (isx_nil)))))), ix_ValueError := isx_cons (PySem.W.mg_of X G aC_TidingError) E_TidingError zk_TidingError_ValueError (isx_cons (PySem.W.mg_of X G aC_BadName) E_BadName zk_BadName_ValueError (isx_cons (PySem.W.mg_of X G aC_BadPacket) E_BadPacket zk_BadPacket_ValueError (isx_cons (PySem.W.mg_of X G aC_BadBytes) E_BadBytes zk_BadBytes_ValueError (isx_cons (PySem.W.mg_of X G aC_BadLine) E_BadLine zk_BadLine_ValueError (isx_cons (PySem.W.mg_of X G aC_BadText) E_BadText zk_BadText_ValueError (isx_nil)))))), n_ValueError := PySem.W.mg_none_of X G n_ValueError, n_all := PySem.W.mg_none_of X G n_all, n_bool := PySem.W.mg_none_of X G n_bool, n_isinstance := PySem.W.mg_none_of X G n_isinstance, n_len := PySem.W.mg_none_of X G n_len, n_list := PySem.W.mg_none_of X G n_list, n_ord := PySem.W.mg_none_of X G n_ord, n_range := PySem.W.mg_none_of X G n_range, n_set := PySem.W.mg_none_of X G n_set, n_sorted := PySem.W.mg_none_of X G n_sorted, n_str := PySem.W.mg_none_of X G n_str, n_tuple := PySem.W.mg_none_of X G n_tuple, c_MOST_LEVELS := PySem.W.mg_of X G v_MOST_LEVELS, c_MOST_SIGNS := PySem.W.mg_of X G v_MOST_SIGNS, c_SMALL := PySem.W.mg_of X G v_SMALL, c_MOST_RULES := PySem.W.mg_of X G v_MOST_RULES, c_FRESH := PySem.W.mg_of X G v_FRESH }
  exact ⟨PySem.W.fnOf "law" "law" (defArgs s_law) (defBody s_law) (defScope s_law) .none kV_law dc_law pm_law an_law cd_law ct_law, fun s v => .of_eq rfl, fun base _ _ => fn_law T F_law⟩
def spW (w : World) (K : PySem.W.Frag) : Sp := fun vs H Q E => ∀ mg, spD ⟨K, mg, J, w⟩ 1 m_law vs H Q E
theorem walk (hlaw : ∀ ns : List Int, ns.length ≤ 63 → ∃ s, m_law [.lsk (ns.map .int)] [] = .ok (.bl true) s) {l : PySem.W.OpenLaw} {q : Program} {loose : List Str} {XP : (Str → Option Value) → Heap → Prop} {YP : World → Heap → Prop} {d : DefRec} {K : Params → PySem.W.Frag} (hn : l.most = some 63) (hdf : d.params.defaults = [])
    (hY : ∀ (w : World) (h : Heap), YP w h → (K w.params).In h)
    (F : ∀ (w : World) (mg : Str → Option Value) (fa : Addr) (h : Heap), (K w.params).In h → h.Ns mainGlobals mg → mg d.name = some (.ref fa) →
      ∃ fd : FuncData, (∀ (s : Shared) (u : Value), BindsTo s fd ⟨[u], []⟩ [("script", u)]) ∧ ∀ base : Heap, (K w.params).In base → base.Ns mainGlobals mg → FnOk l.prog w (K w.params) mg base (cxt true l.prog w) 31 fa fd ["script"] (spD ⟨K w.params, mg, J, w⟩ 1 m_law)) :
    PySem.W.WalkO q loose XP YP l.row.toRowW d [] (fun f vs => PySem.call f vs) :=
  L2.walk_of (n := 63) (k := 31) (x := "script") (CX := fun w => cxt true l.prog w) (sp := fun w => spW w (K w.params)) hn (by decide) hdf ⟨rfl, by decide, by decide⟩ hY (fun w mg fa h kx hg hm => by
      obtain ⟨fd, h1, h2⟩ := F w mg fa h kx hg hm
      exact ⟨fd, h1, fun base hb hgb => (h2 base hb hgb).imp fun vs H Q E hs => hs mg⟩) (fun w H a ns hl _ hS mg => law_sp hlaw hl hS) fun w H s e s' h => by
    obtain ⟨_, _, _, _, _, _, _, _, _, _, _, _, z⟩ := h
    exact z
end Tx
namespace Tx
open PySem L2 Pd
/-! ### texts that are written -/
theorem t_slash : Str.ofString "/" = mkS [47] := by decide +kernel
theorem t_hash : Str.ofString "#" = mkS [35] := by decide +kernel
theorem t_plus : Str.ofString "+" = mkS [43] := by decide +kernel
theorem t_nil : Str.ofString "" = mkS [] := by decide +kernel
theorem t_bad : Str.ofString "+#/" = mkS [43, 35, 47] := by decide +kernel
theorem t_dollar : Str.ofString "$" = mkS [36] := by decide +kernel
theorem t_a : Str.ofString "a" = mkS [97] := by decide +kernel
/-! ### names and wishes, plainly -/
def sgn (c : Nat) : Bool := 32 ≤ c && c < 127 && c != 37 && !decide (c ∈ [43, 35, 47])
def gl (l : List Nat) : Bool := decide (l.length ≤ 12) && l.all sgn
def isName (l : List Nat) : Bool := !(l == []) && decide ((splC 47 l).length ≤ 8) && (splC 47 l).all gl
def plain (ls : List (List Nat)) : List (List Nat) := if ls.getLast? = some [35] then ls.dropLast else ls
def gw (l : List Nat) : Bool := l == [43] || gl l
def isWish (l : List Nat) : Bool := !(l == []) && decide ((splC 47 l).length ≤ 8) && (plain (splC 47 l)).all gw
theorem ev_is_level (l : List Nat) (s : Sto) : m_is_level [.str (mkS l)] s = .ok (.bl (gl l)) s := by
  by_cases h : l.length ≤ 12
  · have h1 : ¬ ((12 : Int) < l.length) := by omega
    have e3 : ∀ env1 : En, True → lcGo (gN 1) Pd.tYes (eAnd (eChain dLe dLt (eC (.int 32)) (eUn dOrd (eVar 1)) (eC (.int 127))) (eAnd (eOp dNe (eUn dOrd (eVar 1)) (eC (.int 37))) (eOp dNotIn (eVar 1) (eC (.str (mkS [43, 35, 47])))))) (fun _ => True) (l.map fun c => .str (mkS [c])) [some (.str (mkS l)), none] s = .ok (l.map fun c => .bl (sgn c)) s := fun _ _ => by
      refine lc_map trivial fun c _ => ⟨[some (.str (mkS l)), some (.str (mkS [c]))], rfl, rfl, ?_⟩
      by_cases h2 : (32 : Int) ≤ c
      · by_cases h3 : (c : Int) < 127
        · by_cases h4 : (c : Int) = 37
          · have e : c = 37 := by omega
            subst e
            rfl
          · have h5 : ((c : Int) == 37) = false := by simpa using h4
            simp only [evR, Nat.reduceAdd, Nat.reduceSub, Int.reduceBEq, Int.reduceEq, Int.reduceLT, Int.reduceLE, Int.reduceNeg, Int.reduceAdd, Int.reduceSub, Int.reduceMul, Int.reduceToNat, Nat.reduceLT, Nat.reduceLeDiff, reduceIte, Int.reduceNe, Int.reduceBNe, String.reduceBEq, dOrd_mk, dLe, dLt, h2, h3, h5, dNotIn_sign]
            have h6 : sgn c = (!decide (c ∈ [43, 35, 47])) := by
              unfold sgn
              have a1 : decide (32 ≤ c) = true := decide_eq_true (by omega)
              have a2 : decide (c < 127) = true := decide_eq_true (by omega)
              have a3 : (c != 37) = true := by simp; omega
              rw [a1, a2, a3]; rfl
            rw [h6]
        · simp only [evR, Nat.reduceAdd, Nat.reduceSub, Int.reduceBEq, Int.reduceEq, Int.reduceLT, Int.reduceLE, Int.reduceNeg, Int.reduceAdd, Int.reduceSub, Int.reduceMul, Int.reduceToNat, Nat.reduceLT, Nat.reduceLeDiff, reduceIte, Int.reduceNe, Int.reduceBNe, String.reduceBEq, dOrd_mk, dLe, dLt, h2, h3, dNotIn_sign]
          have h6 : sgn c = false := by
            unfold sgn
            have a2 : decide (c < 127) = false := decide_eq_false (by omega)
            rw [a2]; simp
          rw [h6]
      · simp only [evR, Nat.reduceAdd, Nat.reduceSub, Int.reduceBEq, Int.reduceEq, Int.reduceLT, Int.reduceLE, Int.reduceNeg, Int.reduceAdd, Int.reduceSub, Int.reduceMul, Int.reduceToNat, Nat.reduceLT, Nat.reduceLeDiff, reduceIte, Int.reduceNe, Int.reduceBNe, String.reduceBEq, dOrd_mk, dLe, dLt, h2, dNotIn_sign]
        have h6 : sgn c = false := by
          unfold sgn
          have a2 : decide (32 ≤ c) = false := decide_eq_false (by omega)
          rw [a2]; simp
        rw [h6]
    have e4 := e3 [] trivial
    have hg : gl l = l.all sgn := by unfold gl; rw [decide_eq_true h, Bool.true_and]
    unfold m_is_level b_is_level
    simp only [evR, Nat.reduceAdd, Nat.reduceSub, Int.reduceBEq, Int.reduceEq, Int.reduceLT, Int.reduceLE, Int.reduceNeg, Int.reduceAdd, Int.reduceSub, Int.reduceMul, Int.reduceToNat, Nat.reduceLT, Nat.reduceLeDiff, reduceIte, Int.reduceNe, Int.reduceBNe, String.reduceBEq, mkS_len, dGt, h1, t_bad, ev_lc, ev_iSeq, signs_mk, wipeD_nil, wipeD_cons, bndN, e4, dAll_map, hg]
  · have h1 : (12 : Int) < l.length := by omega
    have hg : gl l = false := by unfold gl; rw [decide_eq_false h, Bool.false_and]
    unfold m_is_level b_is_level
    simp only [evR, Nat.reduceAdd, Nat.reduceSub, Int.reduceBEq, Int.reduceEq, Int.reduceLT, Int.reduceLE, Int.reduceNeg, Int.reduceAdd, Int.reduceSub, Int.reduceMul, Int.reduceToNat, Nat.reduceLT, Nat.reduceLeDiff, reduceIte, Int.reduceNe, Int.reduceBNe, String.reduceBEq, mkS_len, dGt, h1, hg]
theorem ev_look_name (l : List Nat) (s : Sto) : m_look_name [.str (mkS l)] s = if isName l = true then .ok .non s else .exc 2 s := by
  have e3 : lcGo (gN 2) Pd.tYes (eCall m_is_level [eVar 2]) (fun _ => True) (lvs (splC 47 l)) [some (.str (mkS l)), some (.lst (lvs (splC 47 l))), none] s = .ok ((splC 47 l).map fun p => .bl (gl p)) s :=
    by
      refine lc_map ?_ fun p _ => ⟨[some (.str (mkS l)), some (.lst (lvs (splC 47 l))), some (.str (mkS p))], rfl, rfl, ?_⟩
      · trivial
      · simp only [evR, Nat.reduceAdd, Nat.reduceSub, Int.reduceBEq, Int.reduceEq, Int.reduceLT, Int.reduceLE, Int.reduceNeg, Int.reduceAdd, Int.reduceSub, Int.reduceMul, Int.reduceToNat, Nat.reduceLT, Nat.reduceLeDiff, reduceIte, Int.reduceNe, Int.reduceBNe, String.reduceBEq, ev_is_level]
  unfold m_look_name b_look_name
  by_cases h1 : (l == []) = true
  · have hn : isName l = false := by unfold isName; rw [h1]; rfl
    simp only [evR, Nat.reduceAdd, Nat.reduceSub, Int.reduceBEq, Int.reduceEq, Int.reduceLT, Int.reduceLE, Int.reduceNeg, Int.reduceAdd, Int.reduceSub, Int.reduceMul, Int.reduceToNat, Nat.reduceLT, Nat.reduceLeDiff, reduceIte, Int.reduceNe, Int.reduceBNe, String.reduceBEq, t_slash, t_nil, isStr_str, dSplit_mk, mkS_beq, h1, ev_raise, hn]
  · have h1' : (l == []) = false := by simpa using h1
    by_cases h2 : (splC 47 l).length ≤ 8
    · have g2 : ¬ ((8 : Int) < (splC 47 l).length) := by omega
      have hn : isName l = (splC 47 l).all gl := by unfold isName; rw [h1', decide_eq_true h2]; rfl
      cases hq : (splC 47 l).all gl with
      | true => simp only [evR, Nat.reduceAdd, Nat.reduceSub, Int.reduceBEq, Int.reduceEq, Int.reduceLT, Int.reduceLE, Int.reduceNeg, Int.reduceAdd, Int.reduceSub, Int.reduceMul, Int.reduceToNat, Nat.reduceLT, Nat.reduceLeDiff, reduceIte, Int.reduceNe, Int.reduceBNe, String.reduceBEq, t_slash, t_nil, isStr_str, dSplit_mk, mkS_beq, h1', dGt, List.length_map, g2, ev_lc, ev_iSeq, wipeD_nil, wipeD_cons, bndN, e3, dAll_map, hq, ev_raise, hn]
      | false => simp only [evR, Nat.reduceAdd, Nat.reduceSub, Int.reduceBEq, Int.reduceEq, Int.reduceLT, Int.reduceLE, Int.reduceNeg, Int.reduceAdd, Int.reduceSub, Int.reduceMul, Int.reduceToNat, Nat.reduceLT, Nat.reduceLeDiff, reduceIte, Int.reduceNe, Int.reduceBNe, String.reduceBEq, t_slash, t_nil, isStr_str, dSplit_mk, mkS_beq, h1', dGt, List.length_map, g2, ev_lc, ev_iSeq, wipeD_nil, wipeD_cons, bndN, e3, dAll_map, hq, ev_raise, hn]
    · have g2 : (8 : Int) < (splC 47 l).length := by omega
      have hn : isName l = false := by unfold isName; rw [h1', decide_eq_false h2]; rfl
      simp only [evR, Nat.reduceAdd, Nat.reduceSub, Int.reduceBEq, Int.reduceEq, Int.reduceLT, Int.reduceLE, Int.reduceNeg, Int.reduceAdd, Int.reduceSub, Int.reduceMul, Int.reduceToNat, Nat.reduceLT, Nat.reduceLeDiff, reduceIte, Int.reduceNe, Int.reduceBNe, String.reduceBEq, t_slash, t_nil, isStr_str, dSplit_mk, mkS_beq, h1', dGt, List.length_map, g2, ev_raise, hn]
/-! ### the law's draws -/
def cell (ns : List Int) (k : Int) : Int := if ns = [] then 0 else (ns[(k % ns.length).toNat]?).getD 0
def mixA (ns : List Int) (k : Int) : Int := (cell ns k + 104729 * (k + 1)) % 4294967291
def mixB (ns : List Int) (k : Int) : Int := mixA ns k ^ 5 % 4294967279
def mix (ns : List Int) (k : Int) : Int := (mixB ns k / 64 * 69621 + mixB ns k) % 4294967231
def dr (ns : List Int) (n : Nat) (many : Int) : Int := mix ns n / 8 % many
theorem dr_nonneg (ns : List Int) (n : Nat) {m : Int} (h : 0 < m) : 0 ≤ dr ns n m := Int.emod_nonneg _ (by omega)
theorem dr_lt (ns : List Int) (n : Nat) {m : Int} (h : 0 < m) : dr ns n m < m := Int.emod_lt_of_pos _ h
theorem mod_ok {m : Int} (h : 0 < m) (i : Int) : (0 ≤ i % m) ∧ (i % m < m) := ⟨Int.emod_nonneg _ (by omega), Int.emod_lt_of_pos _ h⟩
abbrev sc (ns : List Int) : Dt := .lsk (ns.map .int)
theorem ev_cell (ns : List Int) (k : Int) (s : Sto) (hk : 0 ≤ k) : m_law_cell [sc ns, .int k] s = .ok (.int (cell ns k)) s := by
  by_cases h : ns = []
  · subst h
    simp [m_law_cell, b_law_cell, fnOf, cell]
  · have hl : 0 < ns.length := List.length_pos_iff.mpr h
    have hm : (0 : Int) < ns.length := by omega
    obtain ⟨h1, h2⟩ := mod_ok hm k
    obtain ⟨j, hj⟩ : ∃ j : Nat, k % (ns.length : Int) = j := ⟨(k % (ns.length : Int)).toNat, by omega⟩
    have hj2 : j < ns.length := by omega
    have e : atI (ns.map Dt.int) (k % (ns.length : Int)) = some (.int (cell ns k)) := by
      rw [hj, atI_ofNat, List.getElem?_map, List.getElem?_eq_getElem hj2]
      simp [cell, h, hj, List.getElem?_eq_getElem hj2]
    have hm' : ¬ ns.isEmpty = true := by simpa using h
    simp [m_law_cell, b_law_cell, fnOf, h, hl, sc, e]
theorem ev_mix (ns : List Int) (k : Int) (s : Sto) (hk : 0 ≤ k) : m_law_mix [sc ns, .int k] s = .ok (.int (mix ns k)) s := by
  have h1 := mod_ok (m := 4294967291) (by decide) (cell ns k + 104729 * (k + 1))
  have h2 := mod_ok (m := 4294967279) (by decide) (mixA ns k ^ 5)
  have h3 : (mixA ns k).natAbs < 2 ^ 64 := by unfold mixA; omega
  have h5 : -(2 ^ 64) < mixB ns k / 64 ∧ mixB ns k / 64 < 2 ^ 64 := by unfold mixB; omega
  have e1 : m_law_cell [sc ns, .int k] s = .ok (.int (cell ns k)) s := ev_cell ns k s hk
  have e2 : decide ((-(2 ^ 64) < (104729 : Int) ∧ (104729 : Int) < 2 ^ 64) ∨ (-(2 ^ 64) < (k + 1) ∧ (k + 1) < 2 ^ 64)) = true := decide_eq_true (.inl (by decide))
  have e3 : decide ((0 : Int) ≤ 5 ∧ (5 : Int) ≤ 1000000 ∧ (mixA ns k).natAbs < 2 ^ 64) = true := decide_eq_true ⟨by decide, by decide, h3⟩
  have e4 : decide ((-(2 ^ 64) < mixB ns k / 64 ∧ mixB ns k / 64 < 2 ^ 64) ∨ (-(2 ^ 64) < (69621 : Int) ∧ (69621 : Int) < 2 ^ 64)) = true := decide_eq_true (.inl h5)
  have e5 : decide (0 < (64 : Int) ∧ (64 : Int) < 1073741824) = true := by decide
  have f1 : (cell ns k + 104729 * (k + 1)) % 4294967291 = mixA ns k := rfl
  have f2 : mixA ns k ^ (5 : Int).toNat % 4294967279 = mixB ns k := rfl
  have f3 : (mixB ns k / 64 * 69621 + mixB ns k) % 4294967231 = mix ns k := rfl
  have g1 : decide ((0 : Int) < 4294967291) = true := by decide
  have g2 : decide ((0 : Int) < 4294967279) = true := by decide
  have g3 : decide ((0 : Int) < 4294967231) = true := by decide
  unfold m_law_mix b_law_mix
  simp only [ev0R, Nat.reduceAdd, Nat.reduceSub, e1, e2, f1, e3, f2, e5, e4, f3, g1, g2, g3]
theorem ev_draw (ns : List Int) {t N : Nat} {many : Int} {R : List SP} {s : Sto} (o : Own (Tw t N :: R) s) (hN : N < 900000) (hm : 0 < many) :
    ∃ v : Nat, (v : Int) < many ∧ ∃ s', m_law_draw [sc ns, .obj t, .int many] s = .ok (.int v) s' ∧ Own (Tw t (N + 1) :: R) s' := by
  obtain ⟨n, hn, o⟩ := own_tw.mp o
  have ht := o.get
  have h1 := isLst_obj ht
  have h2 := dApp_at (y := .int 0) ht (by rw [List.length_replicate]; omega)
  rw [zeros_app] at h2
  have o2 := o.set (zs (n + 1))
  have h3 : dLen (.obj t) (s.set t (zs (n + 1))) = .ok (.int ((n + 1 : Nat) : Int)) (s.set t (zs (n + 1))) := by
    rw [dLen_obj (l := List.replicate (n + 1) (.int 0)) o2.get, List.length_replicate]
  have h4 := ev_mix ns ((n + 1 : Nat) : Int) (s.set t (zs (n + 1))) (Int.natCast_nonneg _)
  have f1 : mix ns ((n + 1 : Nat) : Int) / 8 % many = dr ns (n + 1) many := rfl
  have g1 : decide (0 < (8 : Int) ∧ (8 : Int) < 1073741824) = true := by decide
  have g2 : decide (0 < many) = true := decide_eq_true hm
  obtain ⟨v, hv⟩ : ∃ v : Nat, dr ns (n + 1) many = v := ⟨(dr ns (n + 1) many).toNat, by have := dr_nonneg ns (n + 1) hm; omega⟩
  refine ⟨v, by have := dr_lt ns (n + 1) hm; omega, _, ?_, own_tw.mpr ⟨n + 1, by omega, o2⟩⟩
  unfold m_law_draw b_law_draw
  simp only [ev0R, Nat.reduceAdd, Nat.reduceSub, h1, h2, h3, h4, f1, g1, g2, hv]
theorem ev_pickQ (ns : List Int) {t N : Nat} {d : Dt} {l : List Dt} {R : List SP} {s : Sto} (o : Own (Tw t N :: R) s) (hN : N < 900000) (hd : ∀ s', Own (Tw t (N + 1) :: R) s' → dLen d s = .ok (.int l.length) s ∧ ∀ i : Int, dIx d (.int i) s' = ofO s' (atI l i)) (hl : l ≠ []) :
    ∃ x ∈ l, ∃ s', m_law_pick [sc ns, .obj t, d] s = .ok x s' ∧ Own (Tw t (N + 1) :: R) s' := by
  have hl' : (0 : Int) < l.length := by have := List.length_pos_iff.mpr hl; omega
  obtain ⟨v, hv, s', h1, o'⟩ := ev_draw ns o hN hl'
  obtain ⟨h2, h3⟩ := hd s' o'
  have h3 := h3 v
  have hv : v < l.length := by omega
  rw [atI_ofNat, List.getElem?_eq_getElem hv] at h3
  refine ⟨l[v], List.getElem_mem hv, s', ?_, o'⟩
  unfold m_law_pick b_law_pick
  simp only [evR, Nat.reduceAdd, Nat.reduceSub, Int.reduceBEq, Int.reduceEq, Int.reduceLT, Int.reduceLE, Int.reduceNeg, Int.reduceAdd, Int.reduceSub, Int.reduceMul, Int.reduceToNat, Nat.reduceLT, Nat.reduceLeDiff, reduceIte, Int.reduceNe, Int.reduceBNe, String.reduceBEq, h2, h1, h3]
theorem ev_pick (ns : List Int) {t N : Nat} {l : List Dt} {R : List SP} {s : Sto} (o : Own (Tw t N :: R) s) (hN : N < 900000) (hl : l ≠ []) : ∃ x ∈ l, ∃ s', m_law_pick [sc ns, .obj t, .lst l] s = .ok x s' ∧ Own (Tw t (N + 1) :: R) s' :=
  ev_pickQ ns o hN (fun s' _ => ⟨rfl, fun i => rfl⟩) hl
theorem ev_pickO (ns : List Int) {t N j : Nat} {l : List Dt} {R : List SP} {s : Sto} (o : Own (Tw t N :: At j (.lst l) :: R) s) (hN : N < 900000) (hl : l ≠ []) : ∃ x ∈ l, ∃ s', m_law_pick [sc ns, .obj t, .obj j] s = .ok x s' ∧ Own (Tw t (N + 1) :: At j (.lst l) :: R) s' :=
  ev_pickQ ns o hN (fun s' o' => ⟨dLen_obj (own2 o).get, fun i => dIx_obj (own2 o').get⟩) hl
theorem ev_look_wish (l : List Nat) (s : Sto) : m_look_wish [.str (mkS l)] s = if isWish l = true then .ok .non s else .exc 2 s := by
  obtain ⟨z, hz⟩ := splC_last_ne l
  have e3 : ∀ v : Dt, v = .lst (lvs (plain (splC 47 l))) → lcGo (gN 3) Pd.tYes (eOr (eOp dEq (eVar 3) (eC (.str (mkS [43])))) (eCall m_is_level [eVar 3])) (fun _ => True) (lvs (plain (splC 47 l))) [some (.str (mkS l)), some (.lst (lvs (splC 47 l))), some v, none] s = .ok ((plain (splC 47 l)).map fun p => .bl (gw p)) s := fun v _ =>
    by
      refine lc_map ?_ fun p _ => ⟨[some (.str (mkS l)), some (.lst (lvs (splC 47 l))), some v, some (.str (mkS p))], rfl, rfl, ?_⟩
      · trivial
      unfold gw
      cases hp : (p == [43]) with
      | true => simp only [evR, Nat.reduceAdd, Nat.reduceSub, Int.reduceBEq, Int.reduceEq, Int.reduceLT, Int.reduceLE, Int.reduceNeg, Int.reduceAdd, Int.reduceSub, Int.reduceMul, Int.reduceToNat, Nat.reduceLT, Nat.reduceLeDiff, reduceIte, Int.reduceNe, Int.reduceBNe, String.reduceBEq, ev_is_level, mkS_beq, hp]
      | false => simp only [evR, Nat.reduceAdd, Nat.reduceSub, Int.reduceBEq, Int.reduceEq, Int.reduceLT, Int.reduceLE, Int.reduceNeg, Int.reduceAdd, Int.reduceSub, Int.reduceMul, Int.reduceToNat, Nat.reduceLT, Nat.reduceLeDiff, reduceIte, Int.reduceNe, Int.reduceBNe, String.reduceBEq, ev_is_level, mkS_beq, hp]
  have e4 := e3 _ rfl
  have hl : ((splC 47 l).map fun l => Dt.str (mkS l)).getLast? = some (.str (mkS z)) := by rw [List.getLast?_map, hz]; rfl
  have e5 : (eIf (tBl (eOp dEq (eOp dIx (eVar 1) (eUn dNeg (eC (.int 1)))) (eC (.str (mkS [35]))))) (eSl nwF (eVar 1) none (some (eUn dNeg (eC (.int 1))))) (eVar 1)) [some (.str (mkS l)), some (.lst (lvs (splC 47 l))), none, none] s = .ok (.lst (lvs (plain (splC 47 l)))) s := by
    by_cases hh : z = [35]
    · have hb : (z == [35]) = true := by simpa using hh
      have hp : plain (splC 47 l) = (splC 47 l).dropLast := by unfold plain; rw [hz, hh, if_pos rfl]
      simp only [evR, Nat.reduceAdd, Nat.reduceSub, Int.reduceBEq, Int.reduceEq, Int.reduceLT, Int.reduceLE, Int.reduceNeg, Int.reduceAdd, Int.reduceSub, Int.reduceMul, Int.reduceToNat, Nat.reduceLT, Nat.reduceLeDiff, reduceIte, Int.reduceNe, Int.reduceBNe, String.reduceBEq, hl, mkS_beq, hb, ev_sl, evp_none, evp_some, dSl_lst, cut_init, hp, List.map_dropLast]
    · have hb : (z == [35]) = false := by simpa using hh
      have hp : plain (splC 47 l) = splC 47 l := by unfold plain; rw [hz, if_neg (fun h => hh (Option.some.inj h))]
      simp only [evR, Nat.reduceAdd, Nat.reduceSub, Int.reduceBEq, Int.reduceEq, Int.reduceLT, Int.reduceLE, Int.reduceNeg, Int.reduceAdd, Int.reduceSub, Int.reduceMul, Int.reduceToNat, Nat.reduceLT, Nat.reduceLeDiff, reduceIte, Int.reduceNe, Int.reduceBNe, String.reduceBEq, hl, mkS_beq, hb, hp]
  unfold m_look_wish b_look_wish
  by_cases h1 : (l == []) = true
  · have hn : isWish l = false := by unfold isWish; rw [h1]; rfl
    simp only [ev_ifE] at e5
    simp only [evR, Nat.reduceAdd, Nat.reduceSub, Int.reduceBEq, Int.reduceEq, Int.reduceLT, Int.reduceLE, Int.reduceNeg, Int.reduceAdd, Int.reduceSub, Int.reduceMul, Int.reduceToNat, Nat.reduceLT, Nat.reduceLeDiff, reduceIte, Int.reduceNe, Int.reduceBNe, String.reduceBEq, t_slash, t_hash, t_plus, t_nil, isStr_str, dSplit_mk] at e5
    simp only [evR, Nat.reduceAdd, Nat.reduceSub, Int.reduceBEq, Int.reduceEq, Int.reduceLT, Int.reduceLE, Int.reduceNeg, Int.reduceAdd, Int.reduceSub, Int.reduceMul, Int.reduceToNat, Nat.reduceLT, Nat.reduceLeDiff, reduceIte, Int.reduceNe, Int.reduceBNe, String.reduceBEq, t_slash, t_hash, t_plus, t_nil, isStr_str, dSplit_mk, e5, mkS_beq, h1, ev_raise, hn]
  · have h1' : (l == []) = false := by simpa using h1
    simp only [ev_ifE] at e5
    simp only [evR, Nat.reduceAdd, Nat.reduceSub, Int.reduceBEq, Int.reduceEq, Int.reduceLT, Int.reduceLE, Int.reduceNeg, Int.reduceAdd, Int.reduceSub, Int.reduceMul, Int.reduceToNat, Nat.reduceLT, Nat.reduceLeDiff, reduceIte, Int.reduceNe, Int.reduceBNe, String.reduceBEq, t_slash, t_hash, t_plus, t_nil, isStr_str, dSplit_mk] at e5
    by_cases h2 : (splC 47 l).length ≤ 8
    · have g2 : ¬ ((8 : Int) < (splC 47 l).length) := by omega
      have hn : isWish l = (plain (splC 47 l)).all gw := by unfold isWish; rw [h1', decide_eq_true h2]; rfl
      cases hq : (plain (splC 47 l)).all gw with
      | true => simp only [evR, Nat.reduceAdd, Nat.reduceSub, Int.reduceBEq, Int.reduceEq, Int.reduceLT, Int.reduceLE, Int.reduceNeg, Int.reduceAdd, Int.reduceSub, Int.reduceMul, Int.reduceToNat, Nat.reduceLT, Nat.reduceLeDiff, reduceIte, Int.reduceNe, Int.reduceBNe, String.reduceBEq, t_slash, t_hash, t_plus, t_nil, isStr_str, dSplit_mk, e5, mkS_beq, h1', dGt, List.length_map, g2, ev_lc, ev_iSeq, wipeD_nil, wipeD_cons, bndN, e4, dAll_map, hq, ev_raise, hn]
      | false => simp only [evR, Nat.reduceAdd, Nat.reduceSub, Int.reduceBEq, Int.reduceEq, Int.reduceLT, Int.reduceLE, Int.reduceNeg, Int.reduceAdd, Int.reduceSub, Int.reduceMul, Int.reduceToNat, Nat.reduceLT, Nat.reduceLeDiff, reduceIte, Int.reduceNe, Int.reduceBNe, String.reduceBEq, t_slash, t_hash, t_plus, t_nil, isStr_str, dSplit_mk, e5, mkS_beq, h1', dGt, List.length_map, g2, ev_lc, ev_iSeq, wipeD_nil, wipeD_cons, bndN, e4, dAll_map, hq, ev_raise, hn]
    · have g2 : (8 : Int) < (splC 47 l).length := by omega
      have hn : isWish l = false := by unfold isWish; rw [h1', decide_eq_false h2]; rfl
      simp only [evR, Nat.reduceAdd, Nat.reduceSub, Int.reduceBEq, Int.reduceEq, Int.reduceLT, Int.reduceLE, Int.reduceNeg, Int.reduceAdd, Int.reduceSub, Int.reduceMul, Int.reduceToNat, Nat.reduceLT, Nat.reduceLeDiff, reduceIte, Int.reduceNe, Int.reduceBNe, String.reduceBEq, t_slash, t_hash, t_plus, t_nil, isStr_str, dSplit_mk, e5, mkS_beq, h1', dGt, List.length_map, g2, ev_raise, hn]
/-! ### fits -/
/-! ### the law's own look at names -/
def lsg (c : Nat) : Bool := 32 ≤ c && c < 127 && !(35 == c || (37 == c || 43 == c))
def ll (l : List Nat) : Bool := decide (l.length < 13) && l.all lsg
theorem lsg_sgn {c : Nat} (h : c ≠ 47) : lsg c = sgn c := by
  unfold lsg sgn
  have : (c != 37 && !decide (c ∈ [43, 35, 47])) = !(35 == c || (37 == c || 43 == c)) := by
    rw [Bool.eq_iff_iff]
    simp
    omega
  rw [Bool.and_assoc (decide (32 ≤ c) && decide (c < 127)), this]
theorem ll_gl {l : List Nat} (h : 47 ∉ l) : ll l = gl l := by
  unfold ll gl
  have e1 : decide (l.length < 13) = decide (l.length ≤ 12) := by
    rw [Bool.eq_iff_iff]; simp; omega
  have e2 : l.all lsg = l.all sgn := by
    rw [Bool.eq_iff_iff, List.all_eq_true, List.all_eq_true]
    constructor
    · intro k c hc
      rw [← lsg_sgn (fun e => h (e ▸ hc))]
      exact k c hc
    · intro k c hc
      rw [lsg_sgn (fun e => h (e ▸ hc))]
      exact k c hc
  rw [e1, e2]
theorem nat_beq_int (a c : Nat) : (((a : Nat) : Int) == (c : Int)) = (a == c) := by
  rw [Bool.eq_iff_iff]; simp; omega
theorem ev_law_is_level (l : List Nat) (s : Sto) : m_law_is_level [.str (mkS l)] s = .ok (.bl (ll l)) s := by
  have e1 : lcGo (gN 2) Pd.tYes (eUn dOrd (eVar 2)) (fun _ => True) (l.map fun c => .str (mkS [c])) [some (.str (mkS l)), none, none, none] s = .ok (l.map fun (c : Nat) => .int (c : Int)) s := by
    refine lc_map trivial fun c _ => ⟨[some (.str (mkS l)), none, some (.str (mkS [c])), none], rfl, rfl, ?_⟩
    simp only [evR, Nat.reduceAdd, Nat.reduceSub, Int.reduceBEq, Int.reduceEq, Int.reduceLT, Int.reduceLE, Int.reduceNeg, Int.reduceAdd, Int.reduceSub, Int.reduceMul, Int.reduceToNat, Nat.reduceLT, Nat.reduceLeDiff, reduceIte, Int.reduceNe, Int.reduceBNe, String.reduceBEq, dOrd_mk]
  have e2 : lcGo (gN 3) Pd.tYes (eAnd (eChain dLe dLt (eC (.int 32)) (eVar 3) (eC (.int 127))) (eOp dNotIn (eVar 3) (eTup [eC (.int 35), eC (.int 37), eC (.int 43)]))) (fun _ => True) (l.map fun (c : Nat) => .int (c : Int)) [some (.str (mkS l)), some (.lst (l.map fun (c : Nat) => .int (c : Int))), none, none] s = .ok (l.map fun c => .bl (lsg c)) s := by
    refine lc_map trivial fun c _ => ⟨[some (.str (mkS l)), some (.lst (l.map fun (c : Nat) => .int (c : Int))), none, some (.int (c : Int))], rfl, rfl, ?_⟩
    have b1 : ((35 : Int) == (c : Int)) = (35 == c) := nat_beq_int 35 c
    have b2 : ((37 : Int) == (c : Int)) = (37 == c) := nat_beq_int 37 c
    have b3 : ((43 : Int) == (c : Int)) = (43 == c) := nat_beq_int 43 c
    by_cases h2 : (32 : Int) ≤ c
    · have a1 : decide (32 ≤ c) = true := decide_eq_true (by omega)
      by_cases h3 : (c : Int) < 127
      · have a2 : decide (c < 127) = true := decide_eq_true (by omega)
        simp only [evR, Nat.reduceAdd, Nat.reduceSub, Int.reduceBEq, Int.reduceEq, Int.reduceLT, Int.reduceLE, Int.reduceNeg, Int.reduceAdd, Int.reduceSub, Int.reduceMul, Int.reduceToNat, Nat.reduceLT, Nat.reduceLeDiff, reduceIte, Int.reduceNe, Int.reduceBNe, String.reduceBEq, dLe, dLt, h2, h3, dNotIn_three, b1, b2, b3]
        unfold lsg
        rw [a1, a2]; rfl
      · have a2 : decide (c < 127) = false := decide_eq_false (by omega)
        simp only [evR, Nat.reduceAdd, Nat.reduceSub, Int.reduceBEq, Int.reduceEq, Int.reduceLT, Int.reduceLE, Int.reduceNeg, Int.reduceAdd, Int.reduceSub, Int.reduceMul, Int.reduceToNat, Nat.reduceLT, Nat.reduceLeDiff, reduceIte, Int.reduceNe, Int.reduceBNe, String.reduceBEq, dLe, dLt, h2, h3]
        unfold lsg
        rw [a1, a2]; rfl
    · have a1 : decide (32 ≤ c) = false := decide_eq_false (by omega)
      simp only [evR, Nat.reduceAdd, Nat.reduceSub, Int.reduceBEq, Int.reduceEq, Int.reduceLT, Int.reduceLE, Int.reduceNeg, Int.reduceAdd, Int.reduceSub, Int.reduceMul, Int.reduceToNat, Nat.reduceLT, Nat.reduceLeDiff, reduceIte, Int.reduceNe, Int.reduceBNe, String.reduceBEq, dLe, dLt, h2]
      unfold lsg
      rw [a1]; rfl
  unfold m_law_is_level b_law_is_level
  by_cases h : l.length < 13
  · have h1 : (l.length : Int) < 13 := by omega
    have hl : ll l = l.all lsg := by unfold ll; rw [decide_eq_true h, Bool.true_and]
    simp only [evR, Nat.reduceAdd, Nat.reduceSub, Int.reduceBEq, Int.reduceEq, Int.reduceLT, Int.reduceLE, Int.reduceNeg, Int.reduceAdd, Int.reduceSub, Int.reduceMul, Int.reduceToNat, Nat.reduceLT, Nat.reduceLeDiff, reduceIte, Int.reduceNe, Int.reduceBNe, String.reduceBEq, ev_lc, ev_iSeq, signs_mk, wipeD_nil, wipeD_cons, bndN, e1, mkS_len, dLt, h1, e2, dAll_map, hl]
  · have h1 : ¬ (l.length : Int) < 13 := by omega
    have hl : ll l = false := by unfold ll; rw [decide_eq_false h, Bool.false_and]
    simp only [evR, Nat.reduceAdd, Nat.reduceSub, Int.reduceBEq, Int.reduceEq, Int.reduceLT, Int.reduceLE, Int.reduceNeg, Int.reduceAdd, Int.reduceSub, Int.reduceMul, Int.reduceToNat, Nat.reduceLT, Nat.reduceLeDiff, reduceIte, Int.reduceNe, Int.reduceBNe, String.reduceBEq, ev_lc, ev_iSeq, signs_mk, wipeD_nil, wipeD_cons, bndN, e1, mkS_len, dLt, h1, hl]
theorem all_ll (l : List Nat) : (splC 47 l).all ll = (splC 47 l).all gl := by
  rw [Bool.eq_iff_iff, List.all_eq_true, List.all_eq_true]
  constructor
  · intro k p hp
    rw [← ll_gl (splC_free 47 l p hp)]
    exact k p hp
  · intro k p hp
    rw [ll_gl (splC_free 47 l p hp)]
    exact k p hp
theorem putAt_last {s : Sto} {i : Nat} {l : List Dt} {z v : Dt} (h : s[i]? = some (.lst (l ++ [z]))) : Pd.putAt (.obj i) (.int (-1)) v s = some (s.set i (.lst (l ++ [v]))) := by
  have e : ixN (l ++ [z]).length (-1) = some l.length := by
    unfold ixN
    rw [if_neg (by decide), List.length_append, List.length_singleton, if_pos (by omega)]
    congr 1
    omega
  simp only [Pd.putAt, lstAt_obj h, e, Option.map_some]
  rw [List.set_append_right _ _ (Nat.le_refl _), Nat.sub_self]
  rfl
/-! ### hearers -/
abbrev smalls : List Nat := [97, 98, 99, 100, 101, 102, 103, 104, 105, 106, 107, 108, 109, 110, 111, 112, 113, 114, 115, 116, 117, 118, 119, 120, 121, 122, 48, 49, 50, 51, 52, 53, 54, 55, 56, 57]
theorem t_small : Str.ofString "abcdefghijklmnopqrstuvwxyz0123456789" = mkS smalls := by decide +kernel
def isHearer (l : List Nat) : Bool := decide (1 ≤ l.length ∧ l.length ≤ 12) && l.all fun c => decide (c ∈ smalls)
theorem ev_look_hearer (l : List Nat) (s : Sto) : m_look_hearer [.str (mkS l)] s = if isHearer l = true then .ok .non s else .exc 2 s := by
  have e3 : lcGo (gN 1) Pd.tYes (eOp dIn (eVar 1) (eC (.str (mkS smalls)))) (fun _ => True) (l.map fun c => .str (mkS [c])) [some (.str (mkS l)), none] s = .ok (l.map fun c => .bl (decide (c ∈ smalls))) s := by
    refine lc_map trivial fun c _ => ⟨[some (.str (mkS l)), some (.str (mkS [c]))], rfl, rfl, ?_⟩
    simp only [evR, Nat.reduceAdd, Nat.reduceSub, Int.reduceBEq, Int.reduceEq, Int.reduceLT, Int.reduceLE, Int.reduceNeg, Int.reduceAdd, Int.reduceSub, Int.reduceMul, Int.reduceToNat, Nat.reduceLT, Nat.reduceLeDiff, reduceIte, Int.reduceNe, Int.reduceBNe, String.reduceBEq, dIn_sign]
  unfold m_look_hearer b_look_hearer
  by_cases h1 : (1 : Int) ≤ l.length
  · by_cases h2 : (l.length : Int) ≤ 12
    · have hn : isHearer l = l.all fun c => decide (c ∈ smalls) := by
        unfold isHearer
        rw [decide_eq_true (show 1 ≤ l.length ∧ l.length ≤ 12 by omega), Bool.true_and]
      cases hq : (l.all fun c => decide (c ∈ smalls)) with
      | true => simp only [evR, Nat.reduceAdd, Nat.reduceSub, Int.reduceBEq, Int.reduceEq, Int.reduceLT, Int.reduceLE, Int.reduceNeg, Int.reduceAdd, Int.reduceSub, Int.reduceMul, Int.reduceToNat, Nat.reduceLT, Nat.reduceLeDiff, reduceIte, Int.reduceNe, Int.reduceBNe, String.reduceBEq, mkS_len, dLe, h1, h2, t_small, ev_lc, ev_iSeq, signs_mk, wipeD_nil, wipeD_cons, bndN, e3, dAll_map, hq, ev_raise, hn]
      | false => simp only [evR, Nat.reduceAdd, Nat.reduceSub, Int.reduceBEq, Int.reduceEq, Int.reduceLT, Int.reduceLE, Int.reduceNeg, Int.reduceAdd, Int.reduceSub, Int.reduceMul, Int.reduceToNat, Nat.reduceLT, Nat.reduceLeDiff, reduceIte, Int.reduceNe, Int.reduceBNe, String.reduceBEq, mkS_len, dLe, h1, h2, t_small, ev_lc, ev_iSeq, signs_mk, wipeD_nil, wipeD_cons, bndN, e3, dAll_map, hq, ev_raise, hn]
    · have hn : isHearer l = false := by
        unfold isHearer
        rw [decide_eq_false (show ¬ (1 ≤ l.length ∧ l.length ≤ 12) by omega), Bool.false_and]
      simp only [evR, Nat.reduceAdd, Nat.reduceSub, Int.reduceBEq, Int.reduceEq, Int.reduceLT, Int.reduceLE, Int.reduceNeg, Int.reduceAdd, Int.reduceSub, Int.reduceMul, Int.reduceToNat, Nat.reduceLT, Nat.reduceLeDiff, reduceIte, Int.reduceNe, Int.reduceBNe, String.reduceBEq, mkS_len, dLe, h1, h2, ev_raise, hn]
  · have hn : isHearer l = false := by
      unfold isHearer
      rw [decide_eq_false (show ¬ (1 ≤ l.length ∧ l.length ≤ 12) by omega), Bool.false_and]
    simp only [evR, Nat.reduceAdd, Nat.reduceSub, Int.reduceBEq, Int.reduceEq, Int.reduceLT, Int.reduceLE, Int.reduceNeg, Int.reduceAdd, Int.reduceSub, Int.reduceMul, Int.reduceToNat, Nat.reduceLT, Nat.reduceLeDiff, reduceIte, Int.reduceNe, Int.reduceBNe, String.reduceBEq, mkS_len, dLe, h1, ev_raise, hn]
def fitsL : List (List Nat) → List (List Nat) → Bool
  | [], qs => qs.isEmpty
  | p :: ps, qs => if p = [35] then true else match qs with
    | [] => false
    | q :: qs => ([43] == p || q == p) && fitsL ps qs
theorem ev_fits_levels (s : Sto) : ∀ (n : Nat) (ps qs : List (List Nat)), ps.length < n → r_fits_levels n [.lst (lvs ps), .lst (lvs qs)] s = .ok (.bl (fitsL ps qs)) s
  | 0, ps, qs, h => absurd h (Nat.not_lt_zero _)
  | n + 1, [], qs, h => by
    unfold r_fits_levels b_fits_levels
    have c : cutD (lvs []) none (some 1) = [] := rfl
    have hq : (lvs qs).isEmpty = qs.isEmpty := by cases qs <;> rfl
    simp only [evR, Nat.reduceAdd, Nat.reduceSub, Int.reduceBEq, Int.reduceEq, Int.reduceLT, Int.reduceLE, Int.reduceNeg, Int.reduceAdd, Int.reduceSub, Int.reduceMul, Int.reduceToNat, Nat.reduceLT, Nat.reduceLeDiff, reduceIte, Int.reduceNe, Int.reduceBNe, String.reduceBEq, t_hash, ev_sl, evp_none, evp_some, dSl_lst, c, dEq_nil1, hq]
    cases qs <;> rfl
  | n + 1, p :: ps, qs, h => by
    have ih := ev_fits_levels s n ps
    have hn : ps.length < n := by simpa using h
    have c : cutD (Dt.str (mkS p) :: lvs ps) none (some 1) = [Dt.str (mkS p)] := by rw [cut_one]; rfl
    have c2 : cutD (Dt.str (mkS p) :: lvs ps) (some 1) none = lvs ps := cut_tail _ _
    unfold r_fits_levels b_fits_levels
    by_cases hp : p = [35]
    · have hb : (p == [35]) = true := by simpa using hp
      have hf : fitsL (p :: ps) qs = true := by unfold fitsL; rw [if_pos hp]
      simp only [evR, Nat.reduceAdd, Nat.reduceSub, Int.reduceBEq, Int.reduceEq, Int.reduceLT, Int.reduceLE, Int.reduceNeg, Int.reduceAdd, Int.reduceSub, Int.reduceMul, Int.reduceToNat, Nat.reduceLT, Nat.reduceLeDiff, reduceIte, Int.reduceNe, Int.reduceBNe, String.reduceBEq, t_hash, ev_sl, evp_none, evp_some, dSl_lst, c, dEq_lst1, hb, hf]
    · have hb : (p == [35]) = false := by simpa using hp
      cases qs with
      | nil =>
        have hf : fitsL (p :: ps) [] = false := by unfold fitsL; rw [if_neg hp]
        simp only [evR, Nat.reduceAdd, Nat.reduceSub, Int.reduceBEq, Int.reduceEq, Int.reduceLT, Int.reduceLE, Int.reduceNeg, Int.reduceAdd, Int.reduceSub, Int.reduceMul, Int.reduceToNat, Nat.reduceLT, Nat.reduceLeDiff, reduceIte, Int.reduceNe, Int.reduceBNe, String.reduceBEq, t_hash, ev_sl, evp_none, evp_some, dSl_lst, c, dEq_lst1, hb, hf, List.isEmpty_nil, List.isEmpty_cons]
      | cons q qs =>
        have hf : fitsL (p :: ps) (q :: qs) = (([43] == p || q == p) && fitsL ps qs) := by rw [fitsL, if_neg hp]
        have c3 : cutD (Dt.str (mkS q) :: lvs qs) (some 1) none = lvs qs := cut_tail _ _
        have ih2 := ih qs hn
        cases hh : ([43] == p || q == p) with
        | true => simp only [evR, Nat.reduceAdd, Nat.reduceSub, Int.reduceBEq, Int.reduceEq, Int.reduceLT, Int.reduceLE, Int.reduceNeg, Int.reduceAdd, Int.reduceSub, Int.reduceMul, Int.reduceToNat, Nat.reduceLT, Nat.reduceLeDiff, reduceIte, Int.reduceNe, Int.reduceBNe, String.reduceBEq, t_hash, t_plus, ev_sl, evp_none, evp_some, dSl_lst, c, c2, c3, dEq_lst1, hb, dIn_two, hh, ih2, hf, List.isEmpty_cons]
        | false => simp only [evR, Nat.reduceAdd, Nat.reduceSub, Int.reduceBEq, Int.reduceEq, Int.reduceLT, Int.reduceLE, Int.reduceNeg, Int.reduceAdd, Int.reduceSub, Int.reduceMul, Int.reduceToNat, Nat.reduceLT, Nat.reduceLeDiff, reduceIte, Int.reduceNe, Int.reduceBNe, String.reduceBEq, t_hash, t_plus, ev_sl, evp_none, evp_some, dSl_lst, c, c2, c3, dEq_lst1, hb, dIn_two, hh, ih2, hf, List.isEmpty_cons]
theorem splC_cons (l : List Nat) : ∃ p ps, splC 47 l = p :: ps := by
  cases e : splC 47 l with
  | nil => exact absurd e (splC_ne 47 l)
  | cons p ps => exact ⟨p, ps, rfl⟩
/-- the first level is for any -/
def wide (ls : List (List Nat)) : Bool := match ls with
  | [] => false
  | p :: _ => [43] == p || [35] == p
def fitsC (w l : List Nat) : Bool := !(wide (splC 47 w) && TL.pre [36] l) && fitsL (splC 47 w) (splC 47 l)
theorem ev_is_wide (p : List Nat) (s : Sto) : m_is_wide [.str (mkS p)] s = .ok (.bl ([43] == p || [35] == p)) s := by
  unfold m_is_wide b_is_wide
  simp only [evR, Nat.reduceAdd, Nat.reduceSub, Int.reduceBEq, Int.reduceEq, Int.reduceLT, Int.reduceLE, Int.reduceNeg, Int.reduceAdd, Int.reduceSub, Int.reduceMul, Int.reduceToNat, Nat.reduceLT, Nat.reduceLeDiff, reduceIte, Int.reduceNe, Int.reduceBNe, String.reduceBEq, t_plus, t_hash, dIn_two]
theorem ev_fits (w l : List Nat) (s : Sto) : m_fits [.str (mkS w), .str (mkS l)] s = if isWish w = true then (if isName l = true then .ok (.bl (fitsC w l)) s else .exc 2 s) else .exc 2 s := by
  unfold m_fits b_fits
  have h1 := ev_look_wish w s
  have h2 := ev_look_name l s
  cases hw : isWish w with
  | false =>
    rw [hw, if_neg Bool.false_ne_true] at h1
    simp only [evR, Nat.reduceAdd, Nat.reduceSub, Int.reduceBEq, Int.reduceEq, Int.reduceLT, Int.reduceLE, Int.reduceNeg, Int.reduceAdd, Int.reduceSub, Int.reduceMul, Int.reduceToNat, Nat.reduceLT, Nat.reduceLeDiff, reduceIte, Int.reduceNe, Int.reduceBNe, String.reduceBEq, h1]
  | true =>
    rw [hw, if_pos rfl] at h1
    cases hl : isName l with
    | false =>
      rw [hl, if_neg Bool.false_ne_true] at h2
      simp only [evR, Nat.reduceAdd, Nat.reduceSub, Int.reduceBEq, Int.reduceEq, Int.reduceLT, Int.reduceLE, Int.reduceNeg, Int.reduceAdd, Int.reduceSub, Int.reduceMul, Int.reduceToNat, Nat.reduceLT, Nat.reduceLeDiff, reduceIte, Int.reduceNe, Int.reduceBNe, String.reduceBEq, h1, h2]
    | true =>
      rw [hl, if_pos rfl] at h2
      obtain ⟨p, ps, e⟩ := splC_cons w
      have h8 : (splC 47 w).length ≤ 8 := by
        unfold isWish at hw
        simp only [Bool.and_eq_true, decide_eq_true_eq] at hw
        exact hw.1.2
      have h3 : m_fits_levels [.lst (lvs (p :: ps)), .lst (lvs (splC 47 l))] s = .ok (.bl (fitsL (p :: ps) (splC 47 l))) s := ev_fits_levels s 12 _ _ (by rw [← e]; omega)
      simp only [lvs, List.map_cons] at h3
      have hd : dStarts (.str (mkS l)) (.str (mkS [36])) s = .ok (.bl (TL.pre [36] l)) s := rfl
      have hf : fitsC w l = (!(([43] == p || [35] == p) && TL.pre [36] l) && fitsL (p :: ps) (splC 47 l)) := by unfold fitsC wide; rw [e]
      cases h5 : ([43] == p || [35] == p) with
      | false => simp only [evR, Nat.reduceAdd, Nat.reduceSub, Int.reduceBEq, Int.reduceEq, Int.reduceLT, Int.reduceLE, Int.reduceNeg, Int.reduceAdd, Int.reduceSub, Int.reduceMul, Int.reduceToNat, Nat.reduceLT, Nat.reduceLeDiff, reduceIte, Int.reduceNe, Int.reduceBNe, String.reduceBEq, h1, h2, t_slash, t_dollar, isStr_str, dSplit_mk, e, ev_is_wide, h5, hd, h3, hf]
      | true =>
        cases h6 : TL.pre [36] l with
        | false => simp only [evR, Nat.reduceAdd, Nat.reduceSub, Int.reduceBEq, Int.reduceEq, Int.reduceLT, Int.reduceLE, Int.reduceNeg, Int.reduceAdd, Int.reduceSub, Int.reduceMul, Int.reduceToNat, Nat.reduceLT, Nat.reduceLeDiff, reduceIte, Int.reduceNe, Int.reduceBNe, String.reduceBEq, h1, h2, t_slash, t_dollar, isStr_str, dSplit_mk, e, ev_is_wide, h5, hd, h6, h3, hf]
        | true => simp only [evR, Nat.reduceAdd, Nat.reduceSub, Int.reduceBEq, Int.reduceEq, Int.reduceLT, Int.reduceLE, Int.reduceNeg, Int.reduceAdd, Int.reduceSub, Int.reduceMul, Int.reduceToNat, Nat.reduceLT, Nat.reduceLeDiff, reduceIte, Int.reduceNe, Int.reduceBNe, String.reduceBEq, h1, h2, t_slash, t_dollar, isStr_str, dSplit_mk, e, ev_is_wide, h5, hd, h6, h3, hf]
theorem ev_law_is_name (l : List Nat) (s : Sto) : m_law_is_name [.str (mkS l)] s = .ok (.bl (isName l)) s := by
  have e3 : lcGo (gN 2) Pd.tYes (eCall m_law_is_level [eVar 2]) (fun _ => True) (lvs (splC 47 l)) [some (.str (mkS l)), some (.lst (lvs (splC 47 l))), none] s = .ok ((splC 47 l).map fun p => .bl (ll p)) s := by
    refine lc_map ?_ fun p _ => ⟨[some (.str (mkS l)), some (.lst (lvs (splC 47 l))), some (.str (mkS p))], rfl, rfl, ?_⟩
    · trivial
    · simp only [evR, Nat.reduceAdd, Nat.reduceSub, Int.reduceBEq, Int.reduceEq, Int.reduceLT, Int.reduceLE, Int.reduceNeg, Int.reduceAdd, Int.reduceSub, Int.reduceMul, Int.reduceToNat, Nat.reduceLT, Nat.reduceLeDiff, reduceIte, Int.reduceNe, Int.reduceBNe, String.reduceBEq, ev_law_is_level]
  unfold m_law_is_name b_law_is_name
  by_cases h1 : (l == []) = true
  · have hn : isName l = false := by unfold isName; rw [h1]; rfl
    simp only [evR, Nat.reduceAdd, Nat.reduceSub, Int.reduceBEq, Int.reduceEq, Int.reduceLT, Int.reduceLE, Int.reduceNeg, Int.reduceAdd, Int.reduceSub, Int.reduceMul, Int.reduceToNat, Nat.reduceLT, Nat.reduceLeDiff, reduceIte, Int.reduceNe, Int.reduceBNe, String.reduceBEq, t_slash, t_nil, isStr_str, dSplit_mk, mkS_beq, h1, hn]
  · have h1' : (l == []) = false := by simpa using h1
    by_cases h2 : (splC 47 l).length ≤ 8
    · have g2 : ((splC 47 l).length : Int) < 9 := by omega
      have hn : isName l = (splC 47 l).all gl := by unfold isName; rw [h1', decide_eq_true h2]; rfl
      simp only [evR, Nat.reduceAdd, Nat.reduceSub, Int.reduceBEq, Int.reduceEq, Int.reduceLT, Int.reduceLE, Int.reduceNeg, Int.reduceAdd, Int.reduceSub, Int.reduceMul, Int.reduceToNat, Nat.reduceLT, Nat.reduceLeDiff, reduceIte, Int.reduceNe, Int.reduceBNe, String.reduceBEq, t_slash, t_nil, isStr_str, dSplit_mk, mkS_beq, h1', dLt, List.length_map, g2, ev_lc, ev_iSeq, wipeD_nil, wipeD_cons, bndN, e3, dAll_map, all_ll, hn]
    · have g2 : ¬ ((splC 47 l).length : Int) < 9 := by omega
      have hn : isName l = false := by unfold isName; rw [h1', decide_eq_false h2]; rfl
      simp only [evR, Nat.reduceAdd, Nat.reduceSub, Int.reduceBEq, Int.reduceEq, Int.reduceLT, Int.reduceLE, Int.reduceNeg, Int.reduceAdd, Int.reduceSub, Int.reduceMul, Int.reduceToNat, Nat.reduceLT, Nat.reduceLeDiff, reduceIte, Int.reduceNe, Int.reduceBNe, String.reduceBEq, t_slash, t_nil, isStr_str, dSplit_mk, mkS_beq, h1', dLt, List.length_map, g2, hn]
/-! ### the law's own fitting -/
/-! ### the law's own fitting -/
def gd (ws : List (List Nat)) (k : Nat) : List Nat := (ws[k]?).getD []
def zipA (ws qs : List (List Nat)) : Bool := (List.range ws.length).all fun k => [43] == gd ws k || gd qs k == gd ws k
def zipB : List (List Nat) → List (List Nat) → Bool
  | [], [] => true
  | w :: ws, q :: qs => ([43] == w || q == w) && zipB ws qs
  | _, _ => false
theorem zipA_B : ∀ (ws qs : List (List Nat)), ws.length = qs.length → zipA ws qs = zipB ws qs
  | [], [], _ => rfl
  | w :: ws, q :: qs, h => by
    have ih := zipA_B ws qs (by simpa using h)
    unfold zipA at ih ⊢
    rw [zipB, ← ih, List.length_cons, List.range_succ_eq_map, List.all_cons, List.all_map]
    rfl
  | [], q :: qs, h => by simp at h
  | w :: ws, [], h => by simp at h
theorem fitsL_plain : ∀ (ps qs : List (List Nat)), (∀ p ∈ ps, p ≠ [35]) → fitsL ps qs = (decide (ps.length = qs.length) && zipB ps qs)
  | [], [], _ => rfl
  | [], q :: qs, _ => by simp [fitsL]
  | p :: ps, [], h => by
    rw [fitsL, if_neg (h p List.mem_cons_self)]
    simp
  | p :: ps, q :: qs, h => by
    have ih := fitsL_plain ps qs fun z hz => h z (List.mem_cons_of_mem _ hz)
    rw [fitsL, if_neg (h p List.mem_cons_self), zipB, ih]
    have e : decide ((p :: ps).length = (q :: qs).length) = decide (ps.length = qs.length) := by
      rw [Bool.eq_iff_iff]; simp
    rw [e]
    cases ([43] == p || q == p) <;> cases decide (ps.length = qs.length) <;> rfl
theorem fitsL_hash : ∀ (ps qs : List (List Nat)), (∀ p ∈ ps, p ≠ [35]) → fitsL (ps ++ [[35]]) qs = (decide (ps.length ≤ qs.length) && zipB ps (qs.take ps.length))
  | [], qs, _ => by simp [fitsL, zipB]
  | p :: ps, [], h => by
    rw [List.cons_append, fitsL, if_neg (h p List.mem_cons_self)]
    simp
  | p :: ps, q :: qs, h => by
    have ih := fitsL_hash ps qs fun z hz => h z (List.mem_cons_of_mem _ hz)
    rw [List.cons_append, fitsL, if_neg (h p List.mem_cons_self), List.length_cons, List.take_succ_cons, zipB, ih]
    have e : decide (ps.length + 1 ≤ (q :: qs).length) = decide (ps.length ≤ qs.length) := by
      rw [Bool.eq_iff_iff]; simp
    rw [e]
    cases ([43] == p || q == p) <;> cases decide (ps.length ≤ qs.length) <;> rfl
theorem gw_ne {p : List Nat} (h : gw p = true) : p ≠ [35] := fun e => by
  subst e
  exact absurd h (by decide)
/-- a wish's levels -/
theorem wish_parts {w : List Nat} (h : isWish w = true) : (∀ p ∈ plain (splC 47 w), gw p = true) ∧ (splC 47 w).length ≤ 8 ∧ w ≠ [] := by
  unfold isWish at h
  simp only [Bool.and_eq_true, decide_eq_true_eq] at h
  exact ⟨List.all_eq_true.mp h.2, h.1.2, by simpa using h.1.1⟩
theorem pre_head (l : List Nat) {q : List Nat} {qs : List (List Nat)} (h : splC 47 l = q :: qs) : TL.pre [36] l = (q.take 1 == [36]) := by
  cases l with
  | nil =>
    simp only [splC, List.cons.injEq] at h
    rw [← h.1]; rfl
  | cons c r =>
    by_cases hc : c = 47
    · subst hc
      rw [splC_hit] at h
      simp only [List.cons.injEq] at h
      rw [← h.1]; rfl
    · obtain ⟨p, t, e1, e2⟩ := splC_miss r hc
      rw [e2] at h
      simp only [List.cons.injEq] at h
      rw [← h.1]; rfl
theorem atI_lvs {ws : List (List Nat)} {k : Nat} (h : k < ws.length) : atI (lvs ws) (k : Int) = some (.str (mkS (gd ws k))) := by
  rw [atI_ofNat, List.getElem?_map]
  unfold gd
  rw [List.getElem?_eq_getElem h]
  rfl
noncomputable def fitsTail : Sx := sSeq (sIf (tBl (eOp dNe (eUn dLen (eVar 2)) (eUn dLen (eVar 3)))) (sRet (eC (.bl false))) (sNext)) (sRet (eUn dAll (eLc nwF [4] (iRange (eUn dLen (eVar 2))) (gN 4) (Pd.tYes) (eOp dIn (eOp dIx (eVar 2) (eVar 4)) (eTup [eC (.str (Str.ofString "+")), eOp dIx (eVar 3) (eVar 4)])))))
noncomputable def fitsIf1 : Sx := sIf (tAnd (tBl (eOp dIn (eOp dIx (eVar 2) (eC (.int 0))) (eTup [eC (.str (Str.ofString "+")), eC (.str (Str.ofString "#"))]))) (tBl (eOp dEq (eSl nwF (eOp dIx (eVar 3) (eC (.int 0))) none (some (eC (.int 1)))) (eC (.str (Str.ofString "$")))))) (sRet (eC (.bl false))) (sNext)
noncomputable def fitsIf2 : Sx := sIf (tBl (eOp dEq (eOp dIx (eVar 2) (eUn dNeg (eC (.int 1)))) (eC (.str (Str.ofString "#"))))) (sSeq (sAsg (eSl nwF (eVar 2) none (some (eUn dNeg (eC (.int 1))))) (gN 2)) (sSeq (sIf (tBl (eOp dLt (eUn dLen (eVar 3)) (eUn dLen (eVar 2)))) (sRet (eC (.bl false))) (sNext)) (sAsg (eSl nwF (eVar 3) none (some (eUn dLen (eVar 2)))) (gN 3)))) (sNext)
theorem b_law_fits_eq : b_law_fits = sSeq (sAsg (eBm1 isStr (dSplit nwF) (eVar 0) (eC (.str (Str.ofString "/")))) (gN 2)) (sSeq (sAsg (eBm1 isStr (dSplit nwF) (eVar 1) (eC (.str (Str.ofString "/")))) (gN 3)) (sSeq fitsIf1 (sSeq fitsIf2 fitsTail))) := rfl
theorem ev_fitsTail {w l : Dt} (ws ls : List (List Nat)) (h8 : ws.length ≤ 1000) (s : Sto) : fitsTail [some w, some l, some (.lst (lvs ws)), some (.lst (lvs ls)), none] s = .fl (.rt (.bl (decide (ws.length = ls.length) && zipB ws ls))) s := by
  unfold fitsTail
  by_cases hl : ws.length = ls.length
  · have hb : ((ws.length : Int) == (ls.length : Int)) = true := by rw [hl]; exact beq_self_eq_true _
    have hr : (ws.length : Int) ≤ 16777216 ∧ -(2 ^ 62) ≤ (ws.length : Int) := by omega
    have lc : lcGo (gN 4) Pd.tYes (eOp dIn (eOp dIx (eVar 2) (eVar 4)) (eTup [eC (.str (mkS [43])), eOp dIx (eVar 3) (eVar 4)])) (fun _ => True) ((List.range ws.length).map fun (k : Nat) => .int (k : Int)) [some w, some l, some (.lst (lvs ws)), some (.lst (lvs ls)), none] s = .ok ((List.range ws.length).map fun k => .bl ([43] == gd ws k || gd ls k == gd ws k)) s := by
      refine lc_map ?_ fun k hk => ⟨[some w, some l, some (.lst (lvs ws)), some (.lst (lvs ls)), some (.int (k : Int))], rfl, rfl, ?_⟩
      · trivial
      · have hk2 : k < ws.length := List.mem_range.mp hk
        simp only [evR, Nat.reduceAdd, Nat.reduceSub, Int.reduceBEq, Int.reduceEq, Int.reduceLT, Int.reduceLE, Int.reduceNeg, Int.reduceAdd, Int.reduceSub, Int.reduceMul, Int.reduceToNat, Nat.reduceLT, Nat.reduceLeDiff, reduceIte, Int.reduceNe, Int.reduceBNe, String.reduceBEq, atI_lvs hk2, atI_lvs (show k < ls.length by omega), dIn_two]
    have za : ((List.range ws.length).all fun k => [43] == gd ws k || gd ls k == gd ws k) = zipB ws ls := zipA_B ws ls hl
    simp only [evR, Nat.reduceAdd, Nat.reduceSub, Int.reduceBEq, Int.reduceEq, Int.reduceLT, Int.reduceLE, Int.reduceNeg, Int.reduceAdd, Int.reduceSub, Int.reduceMul, Int.reduceToNat, Nat.reduceLT, Nat.reduceLeDiff, reduceIte, Int.reduceNe, Int.reduceBNe, String.reduceBEq, List.length_map, hb, ev_lc, ev_iRange, hr, Int.toNat_natCast, wipeD_nil, wipeD_cons, bndN, t_plus, lc, dAll_map, za]
    rw [decide_eq_true hl, Bool.true_and]
  · have hb : ((ws.length : Int) == (ls.length : Int)) = false := by rw [beq_eq_false_iff_ne]; omega
    simp only [evR, Nat.reduceAdd, Nat.reduceSub, Int.reduceBEq, Int.reduceEq, Int.reduceLT, Int.reduceLE, Int.reduceNeg, Int.reduceAdd, Int.reduceSub, Int.reduceMul, Int.reduceToNat, Nat.reduceLT, Nat.reduceLeDiff, reduceIte, Int.reduceNe, Int.reduceBNe, String.reduceBEq, List.length_map, hb, hl]
theorem ev_law_fits {w l : List Nat} (hw : isWish w = true) (s : Sto) : m_law_fits [.str (mkS w), .str (mkS l)] s = .ok (.bl (fitsC w l)) s := by
  obtain ⟨hg, h8, _⟩ := wish_parts hw
  obtain ⟨p, ps, e⟩ := splC_cons w
  obtain ⟨q, qs, e2⟩ := splC_cons l
  obtain ⟨z, hz⟩ := splC_last_ne w
  have hz2 : (lvs (splC 47 w)).getLast? = some (.str (mkS z)) := by rw [List.getLast?_map, hz]; rfl
  have w0 : (lvs (splC 47 w))[0]? = some (.str (mkS p)) := by rw [e]; rfl
  have l0 : (lvs (splC 47 l))[0]? = some (.str (mkS q)) := by rw [e2]; rfl
  have hpre := pre_head l e2
  have hwide : wide (splC 47 w) = ([43] == p || [35] == p) := by unfold wide; rw [e]
  have if1 : fitsIf1 [some (.str (mkS w)), some (.str (mkS l)), some (.lst (lvs (splC 47 w))), some (.lst (lvs (splC 47 l))), none] s = if (([43] == p || [35] == p) && (q.take 1 == [36])) = true then .fl (.rt (.bl false)) s else .fl (.nx [some (.str (mkS w)), some (.str (mkS l)), some (.lst (lvs (splC 47 w))), some (.lst (lvs (splC 47 l))), none]) s := by
    unfold fitsIf1
    cases h5 : ([43] == p || [35] == p) with
    | false => simp only [evR, Nat.reduceAdd, Nat.reduceSub, Int.reduceBEq, Int.reduceEq, Int.reduceLT, Int.reduceLE, Int.reduceNeg, Int.reduceAdd, Int.reduceSub, Int.reduceMul, Int.reduceToNat, Nat.reduceLT, Nat.reduceLeDiff, reduceIte, Int.reduceNe, Int.reduceBNe, String.reduceBEq, t_plus, t_hash, t_dollar, w0, l0, dIn_two, h5]
    | true =>
      cases h6 : (q.take 1 == [36]) with
      | false => simp only [evR, Nat.reduceAdd, Nat.reduceSub, Int.reduceBEq, Int.reduceEq, Int.reduceLT, Int.reduceLE, Int.reduceNeg, Int.reduceAdd, Int.reduceSub, Int.reduceMul, Int.reduceToNat, Nat.reduceLT, Nat.reduceLeDiff, reduceIte, Int.reduceNe, Int.reduceBNe, String.reduceBEq, t_plus, t_hash, t_dollar, w0, l0, dIn_two, h5, ev_sl, evp_none, evp_some, dSl_str, cutS_one, mkS_beq, h6]
      | true => simp only [evR, Nat.reduceAdd, Nat.reduceSub, Int.reduceBEq, Int.reduceEq, Int.reduceLT, Int.reduceLE, Int.reduceNeg, Int.reduceAdd, Int.reduceSub, Int.reduceMul, Int.reduceToNat, Nat.reduceLT, Nat.reduceLeDiff, reduceIte, Int.reduceNe, Int.reduceBNe, String.reduceBEq, t_plus, t_hash, t_dollar, w0, l0, dIn_two, h5, ev_sl, evp_none, evp_some, dSl_str, cutS_one, mkS_beq, h6]
  unfold m_law_fits
  rw [b_law_fits_eq]
  cases h56 : (([43] == p || [35] == p) && (q.take 1 == [36])) with
  | true =>
    have hf : fitsC w l = false := by unfold fitsC; rw [hwide, hpre, h56]; rfl
    rw [h56, if_pos rfl] at if1
    simp only [evR, Nat.reduceAdd, Nat.reduceSub, Int.reduceBEq, Int.reduceEq, Int.reduceLT, Int.reduceLE, Int.reduceNeg, Int.reduceAdd, Int.reduceSub, Int.reduceMul, Int.reduceToNat, Nat.reduceLT, Nat.reduceLeDiff, reduceIte, Int.reduceNe, Int.reduceBNe, String.reduceBEq, t_slash, isStr_str, dSplit_mk, if1, hf]
  | false =>
    have hf : fitsC w l = fitsL (splC 47 w) (splC 47 l) := by unfold fitsC; rw [hwide, hpre, h56]; rfl
    rw [hf]
    rw [h56, if_neg Bool.false_ne_true] at if1
    by_cases hh : z = [35]
    · have hb : (z == [35]) = true := by simpa using hh
      obtain ⟨ds, hd⟩ := List.getLast?_eq_some_iff.mp hz
      have hp : plain (splC 47 w) = ds := by unfold plain; rw [hz, hh, if_pos rfl, hd]; simp
      rw [hp] at hg
      have hfl := fitsL_hash ds (splC 47 l) fun p hp => gw_ne (hg p hp)
      have hdl : (lvs (splC 47 w)).dropLast = lvs ds := by rw [hd]; simp
      have hlen : ds.length ≤ 8 := by rw [hd] at h8; simp at h8; omega
      have ht := ev_fitsTail (w := .str (mkS w)) (l := .str (mkS l)) ds ((splC 47 l).take ds.length) (by omega) s
      rw [hh] at hd
      have hfl2 : fitsL (splC 47 w) (splC 47 l) = (decide (ds.length ≤ (splC 47 l).length) && zipB ds ((splC 47 l).take ds.length)) := by rw [hd]; exact hfl
      rw [hfl2]
      by_cases hle : ds.length ≤ (splC 47 l).length
      · have h7 : ¬ ((splC 47 l).length : Int) < ds.length := by omega
        have hc : cutD (lvs (splC 47 l)) none (some (ds.length : Int)) = lvs ((splC 47 l).take ds.length) := by rw [cut_take]; exact (List.map_take ..).symm
        have hle2 : decide (ds.length ≤ (splC 47 l).length) = true := decide_eq_true hle
        have h9 : decide (ds.length = ((splC 47 l).take ds.length).length) = true := decide_eq_true (by rw [List.length_take]; omega)
        rw [h9, Bool.true_and] at ht
        rw [hle2, Bool.true_and]
        have if2 : fitsIf2 [some (.str (mkS w)), some (.str (mkS l)), some (.lst (lvs (splC 47 w))), some (.lst (lvs (splC 47 l))), none] s = .fl (.nx [some (.str (mkS w)), some (.str (mkS l)), some (.lst (lvs ds)), some (.lst (lvs ((splC 47 l).take ds.length))), none]) s := by
          unfold fitsIf2
          simp only [evR, Nat.reduceAdd, Nat.reduceSub, Int.reduceBEq, Int.reduceEq, Int.reduceLT, Int.reduceLE, Int.reduceNeg, Int.reduceAdd, Int.reduceSub, Int.reduceMul, Int.reduceToNat, Nat.reduceLT, Nat.reduceLeDiff, reduceIte, Int.reduceNe, Int.reduceBNe, String.reduceBEq, t_hash, hz2, mkS_beq, hb, ev_sl, evp_none, evp_some, dSl_lst, cut_init, hdl, List.length_map, dLt, h7, hc]
        simp only [evR, Nat.reduceAdd, Nat.reduceSub, Int.reduceBEq, Int.reduceEq, Int.reduceLT, Int.reduceLE, Int.reduceNeg, Int.reduceAdd, Int.reduceSub, Int.reduceMul, Int.reduceToNat, Nat.reduceLT, Nat.reduceLeDiff, reduceIte, Int.reduceNe, Int.reduceBNe, String.reduceBEq, t_slash, isStr_str, dSplit_mk, if1, if2, ht]
      · have h7 : ((splC 47 l).length : Int) < ds.length := by omega
        have hle2 : decide (ds.length ≤ (splC 47 l).length) = false := decide_eq_false hle
        rw [hle2, Bool.false_and]
        have if2 : fitsIf2 [some (.str (mkS w)), some (.str (mkS l)), some (.lst (lvs (splC 47 w))), some (.lst (lvs (splC 47 l))), none] s = .fl (.rt (.bl false)) s := by
          unfold fitsIf2
          simp only [evR, Nat.reduceAdd, Nat.reduceSub, Int.reduceBEq, Int.reduceEq, Int.reduceLT, Int.reduceLE, Int.reduceNeg, Int.reduceAdd, Int.reduceSub, Int.reduceMul, Int.reduceToNat, Nat.reduceLT, Nat.reduceLeDiff, reduceIte, Int.reduceNe, Int.reduceBNe, String.reduceBEq, t_hash, hz2, mkS_beq, hb, ev_sl, evp_none, evp_some, dSl_lst, cut_init, hdl, List.length_map, dLt, h7]
        simp only [evR, Nat.reduceAdd, Nat.reduceSub, Int.reduceBEq, Int.reduceEq, Int.reduceLT, Int.reduceLE, Int.reduceNeg, Int.reduceAdd, Int.reduceSub, Int.reduceMul, Int.reduceToNat, Nat.reduceLT, Nat.reduceLeDiff, reduceIte, Int.reduceNe, Int.reduceBNe, String.reduceBEq, t_slash, isStr_str, dSplit_mk, if1, if2]
    · have hb : (z == [35]) = false := by simpa using hh
      have hp : plain (splC 47 w) = splC 47 w := by unfold plain; rw [hz, if_neg (fun h => hh (Option.some.inj h))]
      rw [hp] at hg
      have if2 : fitsIf2 [some (.str (mkS w)), some (.str (mkS l)), some (.lst (lvs (splC 47 w))), some (.lst (lvs (splC 47 l))), none] s = .fl (.nx [some (.str (mkS w)), some (.str (mkS l)), some (.lst (lvs (splC 47 w))), some (.lst (lvs (splC 47 l))), none]) s := by
        unfold fitsIf2
        simp only [evR, Nat.reduceAdd, Nat.reduceSub, Int.reduceBEq, Int.reduceEq, Int.reduceLT, Int.reduceLE, Int.reduceNeg, Int.reduceAdd, Int.reduceSub, Int.reduceMul, Int.reduceToNat, Nat.reduceLT, Nat.reduceLeDiff, reduceIte, Int.reduceNe, Int.reduceBNe, String.reduceBEq, t_hash, hz2, mkS_beq, hb]
      have ht := ev_fitsTail (w := .str (mkS w)) (l := .str (mkS l)) (splC 47 w) (splC 47 l) (by omega) s
      rw [fitsL_plain _ _ fun p hp => gw_ne (hg p hp)]
      simp only [evR, Nat.reduceAdd, Nat.reduceSub, Int.reduceBEq, Int.reduceEq, Int.reduceLT, Int.reduceLE, Int.reduceNeg, Int.reduceAdd, Int.reduceSub, Int.reduceMul, Int.reduceToNat, Nat.reduceLT, Nat.reduceLeDiff, reduceIte, Int.reduceNe, Int.reduceBNe, String.reduceBEq, t_slash, isStr_str, dSplit_mk, if1, if2, ht]
/-! ### errors that are told -/
theorem ev_refusal (s : Sto) : m_law_refusal [.exc 2] s = .ok (.tup [.str (Str.ofString "refused"), .str (Str.ofString "name")]) s := by
  unfold m_law_refusal b_law_refusal
  simp only [evR, Nat.reduceAdd, Nat.reduceSub, Int.reduceBEq, Int.reduceEq, Int.reduceLT, Int.reduceLE, Int.reduceNeg, Int.reduceAdd, Int.reduceSub, Int.reduceMul, Int.reduceToNat, Nat.reduceLT, Nat.reduceLeDiff, reduceIte, Int.reduceNe, Int.reduceBNe, String.reduceBEq, dIsx_exc, List.lookup, isLst_lst]
  rfl
/-! ### tables, plainly -/
section
variable {κ κ' α β : Type} [DecidableEq κ] [DecidableEq κ']
theorem mkS_inj {a b : List Nat} (h : mkS a = mkS b) : a = b := by
  have e := mkS_beq a b
  rw [h] at e
  simpa using e.symm
abbrev kT (l : List Nat) : Key := Sum.inr (mkS l)
theorem kT_inj {a b : List Nat} (h : kT a = kT b) : a = b := mkS_inj (Sum.inr.inj h)
def bothM (f : κ → κ') (g : α → β) (l : List (κ × α)) : List (κ' × β) := l.map fun x => (f x.1, g x.2)
theorem valA_map {f : κ → κ'} {g : α → β} (hf : ∀ a b, f a = f b → a = b) (l : List (κ × α)) (k : κ) : valA (bothM f g l) (f k) = (valA l k).map g := by
  induction l with
  | nil => rfl
  | cons x l ih =>
    by_cases e : x.1 = k
    · have e2 : bothM f g (x :: l) = (f k, g x.2) :: bothM f g l := by simp [bothM, e]
      have e3 : x :: l = (k, x.2) :: l := by rw [← e]
      rw [e2, valA_cons_eq, e3, valA_cons_eq]
      rfl
    · have e2 : bothM f g (x :: l) = (f x.1, g x.2) :: bothM f g l := rfl
      have e3 : x :: l = (x.1, x.2) :: l := rfl
      rw [e2, valA_cons_ne (fun h => e (hf _ _ h)), ih, e3, valA_cons_ne e]
theorem any_key (l : List (κ × α)) (k : κ) : (l.any fun kv => decide (kv.1 = k)) = (valA l k).isSome := by
  unfold valA
  rw [Option.isSome_map, List.isSome_find?]
theorem putA_map {f : κ → κ'} {g : α → β} (hf : ∀ a b, f a = f b → a = b) (l : List (κ × α)) (k : κ) (v : α) : putA (bothM f g l) (f k) (g v) = bothM f g (putA l k v) := by
  unfold putA
  rw [any_key, any_key, valA_map hf, Option.isSome_map]
  split
  · unfold bothM
    rw [List.map_map, List.map_map]
    apply List.map_congr_left
    intro x _
    simp only [Function.comp]
    by_cases e : x.1 = k
    · rw [if_pos e, if_pos (by rw [e])]
    · rw [if_neg e, if_neg (fun h => e (hf _ _ h))]
  · unfold bothM
    rw [List.map_append]
    rfl
theorem dropA_map {f : κ → κ'} {g : α → β} (hf : ∀ a b, f a = f b → a = b) (l : List (κ × α)) (k : κ) : dropA (bothM f g l) (f k) = bothM f g (dropA l k) := by
  unfold dropA bothM
  rw [List.filter_map]
  congr 1
  apply List.filter_congr
  intro x _
  simp only [Function.comp]
  by_cases e : x.1 = k
  · simp [e]
  · have : f x.1 ≠ f k := fun h => e (hf _ _ h)
    simp [e, this]
theorem valA_some {l : List (κ × α)} {k : κ} {v : α} (h : valA l k = some v) : (k, v) ∈ l := by
  unfold valA at h
  obtain ⟨x, h1, h2⟩ := Option.map_eq_some_iff.mp h
  have h3 := List.find?_some h1
  have h4 := List.mem_of_find?_eq_some h1
  simp only [decide_eq_true_eq] at h3
  rw [← h3, ← h2]
  exact h4
theorem valA_none {l : List (κ × α)} {k : κ} : valA l k = none ↔ k ∉ l.map (·.1) := by
  unfold valA
  rw [Option.map_eq_none_iff, List.find?_eq_none]
  constructor
  · intro h hk
    obtain ⟨x, h1, h2⟩ := List.mem_map.mp hk
    exact h x h1 (by simpa using h2)
  · intro h x hx hk
    exact h (List.mem_map.mpr ⟨x, hx, by simpa using hk⟩)
theorem valA_mem {l : List (κ × α)} (nd : (l.map (·.1)).Nodup) {k : κ} {v : α} : valA l k = some v ↔ (k, v) ∈ l := by
  refine ⟨valA_some, fun h => ?_⟩
  induction l with
  | nil => cases h
  | cons x l ih =>
    rw [List.map_cons, List.nodup_cons] at nd
    rcases List.mem_cons.mp h with e | h
    · rw [← e]; exact valA_cons_eq
    · have : x.1 ≠ k := fun e => nd.1 (by rw [e]; exact List.mem_map.mpr ⟨_, h, rfl⟩)
      have e3 : x :: l = (x.1, x.2) :: l := rfl
      rw [e3, valA_cons_ne this]
      exact ih nd.2 h
theorem put_keys (l : List (κ × α)) (k : κ) (v : α) : (putA l k v).map (·.1) = if (valA l k).isSome = true then l.map (·.1) else l.map (·.1) ++ [k] := by
  unfold putA
  rw [any_key]
  split
  · rw [List.map_map]
    apply List.map_congr_left
    intro x _
    simp only [Function.comp]
    split <;> rfl
  · rw [List.map_append]; rfl
theorem put_nodup {l : List (κ × α)} (nd : (l.map (·.1)).Nodup) (k : κ) (v : α) : ((putA l k v).map (·.1)).Nodup := by
  rw [put_keys]
  split
  · exact nd
  · rename_i h
    have h' : valA l k = none := by simpa using h
    refine List.nodup_append.mpr ⟨nd, by simp, fun a ha b hb => ?_⟩
    rw [List.mem_singleton] at hb
    rw [hb]
    intro e
    subst e
    exact valA_none.mp h' ha
theorem valA_put (l : List (κ × α)) (k j : κ) (v : α) : valA (putA l k v) j = if k = j then some v else valA l j := by
  unfold putA
  rw [any_key]
  split
  · rename_i h
    induction l with
    | nil => simp [valA] at h
    | cons x l ih =>
      by_cases e : x.1 = k
      · rw [List.map_cons, if_pos e]
        by_cases e2 : k = j
        · rw [if_pos e2, ← e2, e]; exact valA_cons_eq
        · rw [if_neg e2, e]
          have e3 : x :: l = (k, x.2) :: l := by rw [← e]
          rw [e3, valA_cons_ne e2, valA_cons_ne e2]
          clear ih h e3
          induction l with
          | nil => rfl
          | cons y l ih2 =>
            rw [List.map_cons]
            by_cases e4 : y.1 = k
            · rw [if_pos e4]
              have e5 : y :: l = (k, y.2) :: l := by rw [← e4]
              rw [e5, e4, valA_cons_ne e2, valA_cons_ne e2, ih2]
            · rw [if_neg e4]
              have e5 : y :: l = (y.1, y.2) :: l := rfl
              have e6 : ∀ m : List (κ × α), y :: m = (y.1, y.2) :: m := fun _ => rfl
              rw [e5, e6]
              by_cases e7 : y.1 = j
              · rw [e7, valA_cons_eq, valA_cons_eq]
              · rw [valA_cons_ne e7, valA_cons_ne e7, ih2]
      · have e5 : ∀ m : List (κ × α), x :: m = (x.1, x.2) :: m := fun _ => rfl
        have h2 : (valA l k).isSome = true := by rw [e5, valA_cons_ne e] at h; exact h
        rw [List.map_cons, if_neg e, e5, e5 l]
        by_cases e7 : x.1 = j
        · rw [e7, valA_cons_eq, valA_cons_eq]
          rw [if_neg (fun z => e (e7.trans z.symm))]
        · rw [valA_cons_ne e7, valA_cons_ne e7, ih h2]
  · rename_i h
    have h' : valA l k = none := by simpa using h
    unfold valA at h' ⊢
    rw [List.find?_append]
    by_cases e2 : k = j
    · subst e2
      have : l.find? (fun kv => decide (kv.1 = k)) = none := Option.map_eq_none_iff.mp h'
      rw [this]
      simp
    · rw [if_neg e2]
      have : ([(k, v)] : List (κ × α)).find? (fun kv => decide (kv.1 = j)) = none := by simp [e2]
      rw [this, Option.or_none]
theorem valA_drop (l : List (κ × α)) (k j : κ) : valA (dropA l k) j = if k = j then none else valA l j := by
  unfold dropA
  split
  · rename_i e
    rw [valA_none]
    intro h
    obtain ⟨x, h1, h2⟩ := List.mem_map.mp h
    have := (List.mem_filter.mp h1).2
    simp only [decide_eq_true_eq] at this
    exact this (h2.trans e.symm)
  · rename_i e
    induction l with
    | nil => rfl
    | cons x l ih =>
      have e5 : ∀ m : List (κ × α), x :: m = (x.1, x.2) :: m := fun _ => rfl
      by_cases e2 : x.1 = k
      · rw [List.filter_cons_of_neg (by simp [e2]), ih, e5, valA_cons_ne (fun z => e (e2.symm.trans z))]
      · rw [List.filter_cons_of_pos (by simp [e2]), e5, e5 l]
        by_cases e7 : x.1 = j
        · rw [e7, valA_cons_eq, valA_cons_eq]
        · rw [valA_cons_ne e7, valA_cons_ne e7, ih]
theorem drop_nodup {l : List (κ × α)} (nd : (l.map (·.1)).Nodup) (k : κ) : ((dropA l k).map (·.1)).Nodup := nd.sublist (List.Sublist.map _ List.filter_sublist)
theorem nodup_of_keys {l : List (κ × α)} (h : (l.map (·.1)).Nodup) : l.Nodup := by
  have := List.pairwise_map.mp h
  exact this.imp fun h z => h (by rw [z])
/-- tables that tell the same -/
theorem tab_perm {l m : List (κ × α)} (h1 : (l.map (·.1)).Nodup) (h2 : (m.map (·.1)).Nodup) (h : ∀ k, valA l k = valA m k) : l.Perm m := by
  refine (List.perm_ext_iff_of_nodup (nodup_of_keys h1) (nodup_of_keys h2)).mpr fun x => ?_
  have e : x = (x.1, x.2) := rfl
  rw [e, ← valA_mem h1, ← valA_mem h2, h]
/-- the part of a table in the midst -/
theorem valA_split {l : List (κ × α)} {k : κ} {v : α} (nd : (l.map (·.1)).Nodup) (h : valA l k = some v) : ∃ a b, l = a ++ (k, v) :: b ∧ ∀ v', putA l k v' = a ++ (k, v') :: b := by
  obtain ⟨a, b, e⟩ := List.append_of_mem (valA_some h)
  refine ⟨a, b, e, fun v' => ?_⟩
  unfold putA
  rw [any_key, h]
  simp only [Option.isSome_some, if_true]
  rw [e, List.map_append, List.nodup_append, List.map_cons, List.nodup_cons] at nd
  rw [e, List.map_append, List.map_cons, if_pos rfl]
  have g : ∀ c : List (κ × α), k ∉ c.map (·.1) → c.map (fun kv => if kv.1 = k then (kv.1, v') else kv) = c := fun c hc => by
    conv => rhs; rw [← List.map_id c]
    apply List.map_congr_left
    intro x hx
    rw [if_neg (fun z => hc (by rw [← z]; exact List.mem_map.mpr ⟨x, hx, rfl⟩))]
    rfl
  rw [g a (fun hk => nd.2.2 k hk k List.mem_cons_self rfl), g b nd.2.1.1]
end
/-! ### lists of texts, compared -/
theorem toPys_lvs : ∀ ps : List (List Nat), toPys (lvs ps) = some (ps.map fun p => .str (mkS p))
  | [] => rfl
  | p :: ps => by
    have ih := toPys_lvs ps
    simp only [lvs] at ih
    simp only [lvs, List.map_cons, toPys, toPy, ih]
theorem depth_lvs : ∀ ps : List (List Nat), PyData.depthAll (ps.map fun p => .str (mkS p)) = 0
  | [] => rfl
  | p :: ps => by simp only [List.map_cons, PyData.depthAll, PyData.depth, depth_lvs ps]; rfl
theorem eqvAll_lvs : ∀ a b : List (List Nat), PyData.eqvAll (a.map fun p => .str (mkS p)) (b.map fun p => .str (mkS p)) = (a == b)
  | [], [] => rfl
  | [], q :: b => rfl
  | p :: a, [] => rfl
  | p :: a, q :: b => by
    simp only [List.map_cons, PyData.eqvAll, PyData.eqv, eqvAll_lvs a b, mkS_beq]
    rfl
theorem dEqB_lvs (a b : List (List Nat)) (s : Sto) : dEqB s (.lst (lvs a)) (.lst (lvs b)) = some (a == b) := by
  simp only [dEqB, toPyS, toPy, toPys_lvs, Option.map_some, PyData.depth, depth_lvs, PyData.eqv, eqvAll_lvs]
  rfl
theorem dEq_lvs (a b : List (List Nat)) (s : Sto) : dEq (.lst (lvs a)) (.lst (lvs b)) s = .ok (.bl (a == b)) s := by simp only [dEq, dEqB_lvs, Option.map_some, ofO_some]
theorem dNe_lvs (a b : List (List Nat)) (s : Sto) : dNe (.lst (lvs a)) (.lst (lvs b)) s = .ok (.bl (!(a == b))) s := by simp only [dNe, dEqB_lvs, Option.map_some, ofO_some]
theorem dEq_non_lvs (b : List (List Nat)) (s : Sto) : dEq .non (.lst (lvs b)) s = .ok (.bl false) s := by
  have : dEqB s .non (.lst (lvs b)) = some false := by
    simp only [dEqB, toPyS, toPy, toPys_lvs, Option.map_some, PyData.depth, depth_lvs, PyData.eqv]
    rfl
  simp only [dEq, this, Option.map_some, ofO_some]
theorem dIn_lvs2 (x a b : List (List Nat)) (s : Sto) : dIn (.lst (lvs x)) (.tup [.lst (lvs a), .lst (lvs b)]) s = .ok (.bl (a == x || b == x)) s := by
  have : inB s (.lst (lvs x)) (.tup [.lst (lvs a), .lst (lvs b)]) = some (a == x || b == x) := by
    simp only [inB, asQ_tup, flatD, Bool.false_and, Bool.false_eq_true, if_false, toPyS, toPy, toPys, toPys_lvs, Option.map_some, PyData.depth, PyData.depthAll, depth_lvs, List.any_cons, List.any_nil, PyData.eqv, eqvAll_lvs, Bool.or_false]
    rfl
  simp only [dIn, this, Option.map_some, ofO_some]
/-! ### covers -/
def coversL : List (List Nat) → List (List Nat) → Bool
  | [], os => os.isEmpty
  | p :: ps, os => if p = [35] then true else match os with
    | [] => false
    | o :: os => if o = [35] then false else ([43] == p || o == p) && coversL ps os
def adj (os : List (List Nat)) : List (List Nat) := if ([[35]] == os || [[], [35]] == os) = true then os.dropLast ++ [[43], [35]] else os
def coversC (w o : List Nat) : Bool := !(wide (splC 47 w) && TL.pre [36] o) && coversL (splC 47 w) (adj (splC 47 o))
theorem len_of_wish {w : List Nat} (h : isWish w = true) : (splC 47 w).length ≤ 8 := by
  unfold isWish at h
  simp only [Bool.and_eq_true, decide_eq_true_eq] at h
  exact h.1.2
theorem seq_exc {f g : Sx} {env e : En} {s s' : Sto} {c : Nat} (h : f env s = .exc c e s') : sSeq f g env s = .exc c e s' := by rw [ev_seq, h]
theorem seq_nx1 {f g : Sx} {env e : En} {s s' : Sto} (h : f env s = .fl (.nx e) s') : sSeq f g env s = g e s' := by rw [ev_seq, h]
theorem seq_rt1 {f g : Sx} {env : En} {s s' : Sto} {d : Dt} (h : f env s = .fl (.rt d) s') : sSeq f g env s = .fl (.rt d) s' := by rw [ev_seq, h]
theorem adj_len (os : List (List Nat)) : (adj os).length ≤ os.length + 2 := by
  unfold adj
  split
  · simp
  · omega
theorem dAdd_lst' {nw : List Dt → Sto → Out Dt} {l m : List Dt} {s : Sto} (h : l.length + m.length ≤ 1000000) : dAdd nw (.lst l) (.lst m) s = nw (l ++ m) s := by
  simp only [dAdd, trkL]
  rw [if_pos (by rw [sizeLine_eq]; omega)]
/-! ### what fits, covers and meets: plain laws -/
def okW : List (List Nat) → Prop
  | [] => True
  | p :: ps => (p = [35] → ps = []) ∧ okW ps
theorem okW_plain : ∀ {ds : List (List Nat)}, (∀ p ∈ ds, p ≠ [35]) → okW ds
  | [], _ => trivial
  | p :: ps, h => ⟨fun e => absurd e (h p List.mem_cons_self), okW_plain fun q hq => h q (List.mem_cons_of_mem _ hq)⟩
theorem okW_hash : ∀ {ds : List (List Nat)}, (∀ p ∈ ds, p ≠ [35]) → okW (ds ++ [[35]])
  | [], _ => ⟨fun _ => rfl, trivial⟩
  | p :: ps, h => ⟨fun e => absurd e (h p List.mem_cons_self), okW_hash fun q hq => h q (List.mem_cons_of_mem _ hq)⟩
theorem gw_ne' {p : List Nat} (h : gw p = true) : p ≠ [35] := fun e => by
  subst e
  exact absurd h (by decide)
theorem wish_ok {w : List Nat} (h : isWish w = true) : okW (splC 47 w) := by
  unfold isWish at h
  simp only [Bool.and_eq_true] at h
  have h2 := List.all_eq_true.mp h.2
  unfold plain at h2
  split at h2
  · rename_i hl
    obtain ⟨ds, hd⟩ := List.getLast?_eq_some_iff.mp hl
    rw [hd] at h2 ⊢
    rw [List.dropLast_concat] at h2
    exact okW_hash fun p hp => gw_ne' (h2 p hp)
  · exact okW_plain fun p hp => gw_ne' (h2 p hp)
theorem splC_single {l : List Nat} (h : splC 47 l = [[]]) : l = [] := by
  cases l with
  | nil => rfl
  | cons c r =>
    by_cases hc : c = 47
    · subst hc
      rw [splC_hit] at h
      simp only [List.cons.injEq, true_and] at h
      exact absurd h (splC_ne 47 r)
    · obtain ⟨p, t, e1, e2⟩ := splC_miss r hc
      rw [e2] at h
      simp at h
theorem wish_ne {w : List Nat} (h : isWish w = true) : splC 47 w ≠ [[]] := fun e => by
  have := splC_single e
  subst this
  exact absurd h (by decide)
theorem name_ne {w : List Nat} (h : isName w = true) : splC 47 w ≠ [[]] := fun e => by
  have := splC_single e
  subst this
  exact absurd h (by decide)
theorem pre_hd {l : List Nat} {q : List Nat} {qs : List (List Nat)} (h : splC 47 l = q :: qs) : TL.pre [36] l = (q.take 1 == [36]) := by
  cases l with
  | nil =>
    simp only [splC, List.cons.injEq] at h
    rw [← h.1]; rfl
  | cons c r =>
    by_cases hc : c = 47
    · subst hc
      rw [splC_hit] at h
      simp only [List.cons.injEq] at h
      rw [← h.1]; rfl
    · obtain ⟨p, t, e1, e2⟩ := splC_miss r hc
      rw [e2] at h
      simp only [List.cons.injEq] at h
      rw [← h.1]; rfl
theorem wide_cons {p : List Nat} {ps : List (List Nat)} : wide (p :: ps) = true ↔ p = [43] ∨ p = [35] := by
  unfold wide
  simp only [Bool.or_eq_true, beq_iff_eq]
  exact ⟨fun h => h.imp Eq.symm Eq.symm, fun h => h.imp Eq.symm Eq.symm⟩
theorem beq2 {p q : List Nat} : ([43] == p || q == p) = true ↔ p = [43] ∨ q = p := by
  simp only [Bool.or_eq_true, beq_iff_eq]
  exact ⟨fun h => h.imp Eq.symm id, fun h => h.imp Eq.symm id⟩
theorem fits_cons {p q : List Nat} {ps qs : List (List Nat)} (hp : p ≠ [35]) : fitsL (p :: ps) (q :: qs) = true ↔ (p = [43] ∨ q = p) ∧ fitsL ps qs = true := by
  rw [fitsL, if_neg hp]
  simp only [Bool.and_eq_true, beq2]
theorem fits_hash {ps qs : List (List Nat)} : fitsL ([35] :: ps) qs = true := by unfold fitsL; rw [if_pos rfl]
theorem fits_nil {p : List Nat} {ps : List (List Nat)} (hp : p ≠ [35]) : fitsL (p :: ps) [] = false := by rw [fitsL, if_neg hp]
theorem covers_cons {p q : List Nat} {ps qs : List (List Nat)} (hp : p ≠ [35]) : coversL (p :: ps) (q :: qs) = true ↔ q ≠ [35] ∧ (p = [43] ∨ q = p) ∧ coversL ps qs = true := by
  rw [coversL, if_neg hp]
  by_cases hq : q = [35]
  · simp [hq]
  · simp only [if_neg hq, Bool.and_eq_true, beq2]
    exact ⟨fun h => ⟨hq, h⟩, fun h => h.2⟩
theorem covers_hash {ps qs : List (List Nat)} : coversL ([35] :: ps) qs = true := by unfold coversL; rw [if_pos rfl]
theorem covers_nil {p : List Nat} {ps : List (List Nat)} (hp : p ≠ [35]) : coversL (p :: ps) [] = false := by rw [coversL, if_neg hp]
theorem fits_trans : ∀ {ps os qs : List (List Nat)}, coversL ps os = true → fitsL os qs = true → fitsL ps qs = true
  | [], os, qs, h1, h2 => by
    cases os with
    | nil => exact h2
    | cons o os => simp [coversL] at h1
  | p :: ps, os, qs, h1, h2 => by
    by_cases hp : p = [35]
    · subst hp; exact fits_hash
    · cases os with
      | nil => rw [covers_nil hp] at h1; cases h1
      | cons o os =>
        obtain ⟨ho, h3, h4⟩ := (covers_cons hp).mp h1
        cases qs with
        | nil => rw [fits_nil ho] at h2; cases h2
        | cons q qs =>
          obtain ⟨h5, h6⟩ := (fits_cons ho).mp h2
          refine (fits_cons hp).mpr ⟨?_, fits_trans h4 h6⟩
          rcases h3 with h3 | h3
          · exact .inl h3
          · subst h3; exact h5
theorem covers_trans : ∀ {ps os qs : List (List Nat)}, coversL ps os = true → coversL os qs = true → coversL ps qs = true
  | [], os, qs, h1, h2 => by
    cases os with
    | nil => exact h2
    | cons o os => simp [coversL] at h1
  | p :: ps, os, qs, h1, h2 => by
    by_cases hp : p = [35]
    · subst hp; exact covers_hash
    · cases os with
      | nil => rw [covers_nil hp] at h1; cases h1
      | cons o os =>
        obtain ⟨ho, h3, h4⟩ := (covers_cons hp).mp h1
        cases qs with
        | nil => rw [covers_nil ho] at h2; cases h2
        | cons q qs =>
          obtain ⟨hq, h5, h6⟩ := (covers_cons ho).mp h2
          refine (covers_cons hp).mpr ⟨hq, ?_, covers_trans h4 h6⟩
          rcases h3 with h3 | h3
          · exact .inl h3
          · subst h3; exact h5
theorem adj_cases (os : List (List Nat)) : (os = [[35]] ∧ adj os = [[43], [35]]) ∨ (os = [[], [35]] ∧ adj os = [[], [43], [35]]) ∨ (os ≠ [[35]] ∧ os ≠ [[], [35]] ∧ adj os = os) := by
  by_cases h1 : os = [[35]]
  · subst h1; exact .inl ⟨rfl, rfl⟩
  · by_cases h2 : os = [[], [35]]
    · subst h2; exact .inr (.inl ⟨rfl, rfl⟩)
    · refine .inr (.inr ⟨h1, h2, ?_⟩)
      unfold adj
      have e1 : ([[35]] == os) = false := by rw [beq_eq_false_iff_ne]; exact fun h => h1 h.symm
      have e2 : ([[], [35]] == os) = false := by rw [beq_eq_false_iff_ne]; exact fun h => h2 h.symm
      rw [e1, e2]; rfl
theorem adj_fits {os qs : List (List Nat)} (h : fitsL os qs = true) (hq : qs ≠ []) (hq2 : qs ≠ [[]]) : fitsL (adj os) qs = true := by
  rcases adj_cases os with ⟨e1, e2⟩ | ⟨e1, e2⟩ | ⟨_, _, e2⟩
  · rw [e2]
    cases qs with
    | nil => exact absurd rfl hq
    | cons q qs => exact (fits_cons (by decide)).mpr ⟨.inl rfl, fits_hash⟩
  · rw [e2]
    subst e1
    cases qs with
    | nil => exact absurd rfl hq
    | cons q qs =>
      obtain ⟨h1, _⟩ := (fits_cons (by decide)).mp h
      rcases h1 with h1 | h1
      · simp at h1
      · subst h1
        cases qs with
        | nil => exact absurd rfl hq2
        | cons q2 qs => exact (fits_cons (by decide)).mpr ⟨.inr rfl, (fits_cons (by decide)).mpr ⟨.inl rfl, fits_hash⟩⟩
  · rw [e2]; exact h
theorem adj_covers {os cs : List (List Nat)} (h : coversL os (adj cs) = true) (ok : okW cs) (h0 : cs ≠ []) (h1 : cs ≠ [[]]) : coversL (adj os) (adj cs) = true := by
  rcases adj_cases os with ⟨e1, e2⟩ | ⟨e1, e2⟩ | ⟨_, _, e2⟩
  · rw [e2]
    rcases adj_cases cs with ⟨_, c2⟩ | ⟨_, c2⟩ | ⟨c1, _, c2⟩
    · rw [c2]; decide
    · rw [c2]; decide
    · rw [c2]
      cases cs with
      | nil => exact absurd rfl h0
      | cons c cs =>
        refine (covers_cons (by decide)).mpr ⟨fun e => ?_, .inl rfl, covers_hash⟩
        have := ok.1 e
        subst this; subst e
        exact c1 rfl
  · rw [e2]
    subst e1
    rcases adj_cases cs with ⟨_, c2⟩ | ⟨_, c2⟩ | ⟨c1, c3, c2⟩
    · rw [c2] at h; exact absurd h (by decide)
    · rw [c2]; decide
    · rw [c2] at h ⊢
      cases cs with
      | nil => exact absurd rfl h0
      | cons c cs =>
        obtain ⟨hc, h3, _⟩ := (covers_cons (by decide)).mp h
        rcases h3 with h3 | h3
        · simp at h3
        · subst h3
          cases cs with
          | nil => exact absurd rfl h1
          | cons c2 cs =>
            refine (covers_cons (by decide)).mpr ⟨hc, .inr rfl, (covers_cons (by decide)).mpr ⟨fun e => ?_, .inl rfl, covers_hash⟩⟩
            have := ok.2.1 e
            subst this; subst e
            exact c3 rfl
  · rw [e2]; exact h
theorem fitsC_iff {w l : List Nat} : fitsC w l = true ↔ ¬ (wide (splC 47 w) = true ∧ TL.pre [36] l = true) ∧ fitsL (splC 47 w) (splC 47 l) = true := by
  unfold fitsC
  cases wide (splC 47 w) <;> cases TL.pre [36] l <;> simp
theorem coversC_iff {w l : List Nat} : coversC w l = true ↔ ¬ (wide (splC 47 w) = true ∧ TL.pre [36] l = true) ∧ coversL (splC 47 w) (adj (splC 47 l)) = true := by
  unfold coversC
  cases wide (splC 47 w) <;> cases TL.pre [36] l <;> simp
theorem not_wide {p : List Nat} {ps : List (List Nat)} (h : ¬ wide (p :: ps) = true) : p ≠ [43] ∧ p ≠ [35] := ⟨fun e => h (wide_cons.mpr (.inl e)), fun e => h (wide_cons.mpr (.inr e))⟩
/-- what fits a wish fits what covers it -/
theorem covers_fits0 {a b n : List Nat} (hn : splC 47 n ≠ [[]]) (hc : coversC a b = true) (hf : fitsC b n = true) : fitsC a n = true := by
  obtain ⟨c1, c2⟩ := coversC_iff.mp hc
  obtain ⟨f1, f2⟩ := fitsC_iff.mp hf
  refine fitsC_iff.mpr ⟨fun ⟨k1, k2⟩ => ?_, fits_trans c2 (adj_fits f2 (splC_ne 47 n) hn)⟩
  have nb : ¬ wide (splC 47 b) = true := fun h => f1 ⟨h, k2⟩
  obtain ⟨p, ps, e⟩ := splC_cons b
  obtain ⟨q, qs, e2⟩ := splC_cons n
  rw [e] at nb f2
  rw [e2] at f2
  obtain ⟨h1, h2⟩ := not_wide nb
  obtain ⟨h3, _⟩ := (fits_cons h2).mp f2
  rcases h3 with h3 | h3
  · exact h1 h3
  · subst h3
    refine c1 ⟨k1, ?_⟩
    rw [pre_hd e, ← pre_hd e2]
    exact k2
theorem covers_fits {a b n : List Nat} (hn : isName n = true) (hc : coversC a b = true) (hf : fitsC b n = true) : fitsC a n = true := covers_fits0 (name_ne hn) hc hf
theorem covers_covers {a b c : List Nat} (hc : isWish c = true) (h1 : coversC a b = true) (h2 : coversC b c = true) : coversC a c = true := by
  obtain ⟨c1, c2⟩ := coversC_iff.mp h1
  obtain ⟨f1, f2⟩ := coversC_iff.mp h2
  refine coversC_iff.mpr ⟨fun ⟨k1, k2⟩ => ?_, covers_trans c2 (adj_covers f2 (wish_ok hc) (splC_ne 47 c) (wish_ne hc))⟩
  have nb : ¬ wide (splC 47 b) = true := fun h => f1 ⟨h, k2⟩
  obtain ⟨p, ps, e⟩ := splC_cons b
  obtain ⟨q, qs, e2⟩ := splC_cons c
  have k3 := k2
  rw [pre_hd e2] at k3
  have ha : adj (splC 47 c) = splC 47 c := by
    rcases adj_cases (splC 47 c) with ⟨e1, _⟩ | ⟨e1, _⟩ | ⟨_, _, e3⟩
    · rw [e1] at e2
      simp only [List.cons.injEq] at e2
      rw [← e2.1] at k3
      exact absurd k3 (by decide)
    · rw [e1] at e2
      simp only [List.cons.injEq] at e2
      rw [← e2.1] at k3
      exact absurd k3 (by decide)
    · exact e3
  rw [ha, e, e2] at f2
  rw [e] at nb
  obtain ⟨h1, h2⟩ := not_wide nb
  obtain ⟨_, h3, _⟩ := (covers_cons h2).mp f2
  rcases h3 with h3 | h3
  · exact h1 h3
  · subst h3
    refine c1 ⟨k1, ?_⟩
    rw [pre_hd e]
    exact k3
end Tx
namespace Tx
open PySem L2 Pd
/-! ### rules, plainly -/
abbrev Lv := List (List Nat)
abbrev Rl := List (Bool × Lv)
def wideL (p : List Nat) : Bool := [43] == p || [35] == p
def stepR (x : List Nat) (f : Bool) (r : Bool × Lv) : Option (Bool × Lv) := match r.2 with
  | [] => none
  | p :: ps => if (f && (wideL p && TL.pre [36] x)) = true then none else if p = [35] then some (r.1, p :: ps) else if ([43] == p || x == p) = true then some (r.1, ps) else none
def stepd (rs : Rl) (x : List Nat) (f : Bool) : Rl := rs.filterMap (stepR x f)
def endR (q : Lv) : Bool := q == [] || q == [[35]]
def letHere : Rl → Bool
  | [] => true
  | (l, q) :: r => if endR q = true then l else letHere r
def headR (r : Bool × Lv) : Option (List Nat) := match r.2 with
  | [] => none
  | p :: _ => if wideL p = true then none else some p
def headsR (rs : Rl) : List (List Nat) := rs.filterMap headR
def sortU (l : List (List Nat)) : List (List Nat) := (sortK (fun x : Str => [Sum.inr x]) (uniq (l.map mkS))).map fun x => x.cps.toList
def abcs : List Nat := [97, 98, 99, 100, 101, 102, 103, 104, 105, 106, 107, 108, 109, 110, 111, 112, 113, 114, 115, 116, 117, 118, 119, 120, 121, 122]
def freshL (so : List (List Nat)) : List Nat := [((abcs.filter fun c => !so.contains [c]).head?).getD 97]
def soR (rs : Rl) (f : Bool) : List (List Nat) := if f = true then (sortU (headsR rs)).filter (fun x => !TL.pre [36] x) else sortU (headsR rs)
def chs (w : Lv) (rs : Rl) (f : Bool) : List (List Nat) := match w with
  | [] => []
  | p :: _ => if wideL p = false then [p] else soR rs f ++ [freshL (soR rs f)]
def laterW : Lv → Lv
  | [] => []
  | p :: ps => if p = [35] then p :: ps else ps
theorem laterW_cons (p : List Nat) (ps : Lv) : laterW (p :: ps) = if p = [35] then p :: ps else ps := rfl
def endsW (n : Nat) (e : Bool) (w : Lv) : Bool := n != 0 && (!e && endR w)
def fnd : Nat → Lv → Rl → Nat → Bool → Option Lv
  | 0, w, rs, n, e => if (endsW n e w && !letHere rs) = true then some [] else none
  | k + 1, w, rs, n, e => if (endsW n e w && !letHere rs) = true then some [] else if w = [] then none else
      (chs w rs (n == 0)).findSome? fun l => (fnd k (laterW w) (stepd rs l (n == 0)) (n + 1) (n == 0 && l == [])).map (l :: ·)
/-! what it tells -/
def headD : Lv → Bool
  | [] => false
  | x :: _ => TL.pre [36] x
def fitsN (f : Bool) (w ls : Lv) : Bool := !(f && (wide w && headD ls)) && fitsL w ls
def letN (f : Bool) : Rl → Lv → Bool
  | [], _ => true
  | (l, q) :: r, ls => if fitsN f q ls = true then l else letN f r ls
theorem wide_consL (p : List Nat) (ps : Lv) : wide (p :: ps) = wideL p := rfl
theorem fitsN_cons (f : Bool) (p x : List Nat) (ps ls : Lv) : fitsN f (p :: ps) (x :: ls) = (!(f && (wideL p && TL.pre [36] x)) && (if p = [35] then true else ([43] == p || x == p) && fitsL ps ls)) := by
  unfold fitsN
  rw [wide_consL]
  simp only [headD, fitsL]
theorem fitsN_false (w ls : Lv) : fitsN false w ls = fitsL w ls := by unfold fitsN; rw [Bool.false_and]; rfl
theorem fitsN_nil (f : Bool) (w : Lv) : fitsN f w [] = fitsL w [] := by
  unfold fitsN headD
  rw [Bool.and_false, Bool.and_false]
  rfl
theorem letN_step (f : Bool) (x : List Nat) (ls : Lv) : ∀ rs : Rl, letN f rs (x :: ls) = letN false (stepd rs x f) ls
  | [] => rfl
  | (l, q) :: rs => by
    have ih := letN_step f x ls rs
    unfold stepd at ih ⊢
    cases q with
    | nil =>
      have h1 : fitsN f [] (x :: ls) = false := by unfold fitsN wide fitsL; simp
      have h2 : stepR x f (l, []) = none := rfl
      rw [letN, h1, if_neg Bool.false_ne_true, ih, List.filterMap_cons, h2]
    | cons p ps =>
      rw [letN, fitsN_cons, List.filterMap_cons]
      cases hc : (f && (wideL p && TL.pre [36] x)) with
      | true =>
        have h2 : stepR x f (l, p :: ps) = none := by simp only [stepR, hc, if_true]
        rw [h2, Bool.not_true, Bool.false_and, if_neg Bool.false_ne_true, ih]
      | false =>
        rw [Bool.not_false, Bool.true_and]
        by_cases hp : p = [35]
        · have h2 : stepR x f (l, p :: ps) = some (l, p :: ps) := by simp only [stepR, hc, Bool.false_eq_true, if_false, if_pos hp]
          rw [h2, if_pos hp, if_pos rfl, letN, fitsN_false]
          have : fitsL (p :: ps) ls = true := by unfold fitsL; rw [if_pos hp]
          rw [this, if_pos rfl]
        · rw [if_neg hp]
          cases ho : ([43] == p || x == p) with
          | true =>
            have h2 : stepR x f (l, p :: ps) = some (l, ps) := by simp only [stepR, hc, Bool.false_eq_true, if_false, if_neg hp, ho, if_true]
            rw [h2, letN, fitsN_false, Bool.true_and, ih]
          | false =>
            have h2 : stepR x f (l, p :: ps) = none := by simp only [stepR, hc, Bool.false_eq_true, if_false, if_neg hp, ho]
            rw [h2, Bool.false_and, if_neg Bool.false_ne_true, ih]
structure WOk (w : Lv) : Prop where
  lv : ∀ p ∈ w, p = [35] ∨ gw p = true
  ls : ∀ p ∈ w.dropLast, p ≠ [35]
def ROk (rs : Rl) : Prop := ∀ r ∈ rs, WOk r.2
theorem WOk.tail {p : List Nat} {ps : Lv} (h : WOk (p :: ps)) : WOk ps := by
  cases ps with
  | nil => exact ⟨(fun _ h => nomatch h), fun _ h => nomatch h⟩
  | cons q qs => exact ⟨fun x hx => h.lv x (List.mem_cons_of_mem _ hx), fun x hx => h.ls x (by rw [List.dropLast_cons_cons]; exact List.mem_cons_of_mem _ hx)⟩
theorem WOk.hash {ps : Lv} (h : WOk ([35] :: ps)) : ps = [] := by
  cases ps with
  | nil => rfl
  | cons q qs => exact absurd rfl (h.ls [35] (by rw [List.dropLast_cons_cons]; exact List.mem_cons_self))
theorem WOk.later {w : Lv} (h : WOk w) : WOk (laterW w) := by
  cases w with
  | nil => exact h
  | cons p ps =>
    rw [laterW_cons]
    split
    · exact h
    · exact h.tail
theorem ROk.step {rs : Rl} (h : ROk rs) (x : List Nat) (f : Bool) : ROk (stepd rs x f) := by
  intro r hr
  unfold stepd at hr
  obtain ⟨⟨l, q⟩, h1, h2⟩ := List.mem_filterMap.mp hr
  have hq := h _ h1
  cases q with
  | nil => simp [stepR] at h2
  | cons p ps =>
    simp only [stepR] at h2
    split at h2
    · cases h2
    · split at h2
      · cases h2; exact hq
      · split at h2
        · cases h2; exact hq.tail
        · cases h2
theorem fitsL_nil {q : Lv} (h : WOk q) : fitsL q [] = endR q := by
  cases q with
  | nil => rfl
  | cons p ps =>
    rw [fitsL]
    by_cases hp : p = [35]
    · subst hp
      rw [if_pos rfl, h.hash]
      rfl
    · rw [if_neg hp]
      unfold endR
      have h1 : ((p :: ps) == ([] : Lv)) = false := rfl
      have h2 : ((p :: ps) == [[35]]) = false := by rw [beq_eq_false_iff_ne]; intro e; cases e; exact hp rfl
      rw [h1, h2]
      rfl
theorem letN_nil (f : Bool) : ∀ {rs : Rl}, ROk rs → letN f rs [] = letHere rs
  | [], _ => rfl
  | (l, q) :: rs, h => by
    rw [letN, letHere, fitsN_nil, fitsL_nil (h _ List.mem_cons_self), letN_nil f fun r hr => h r (List.mem_cons_of_mem _ hr)]
theorem mem_sortU {l : List (List Nat)} {x : List Nat} : x ∈ sortU l ↔ x ∈ l := by
  unfold sortU
  rw [List.mem_map]
  constructor
  · rintro ⟨y, h1, h2⟩
    have h3 := (uniq_mem _ y).mp ((sortK_perm _ _).mem_iff.mp h1)
    obtain ⟨z, h4, h5⟩ := List.mem_map.mp h3
    rw [← h2, ← h5]
    simpa using h4
  · intro h
    exact ⟨mkS x, (sortK_perm _ _).mem_iff.mpr ((uniq_mem _ _).mpr (List.mem_map.mpr ⟨x, h, rfl⟩)), by simp⟩
theorem len_sortU (l : List (List Nat)) : (sortU l).length ≤ l.length := by
  unfold sortU
  rw [List.length_map, (sortK_perm _ _).length_eq]
  have := uniq_len (l.map mkS)
  rw [List.length_map] at this
  exact this
theorem len_soR (rs : Rl) (f : Bool) : (soR rs f).length ≤ rs.length := by
  have h1 := len_sortU (headsR rs)
  have h2 : (headsR rs).length ≤ rs.length := List.length_filterMap_le _ _
  unfold soR
  split
  · have := List.length_filter_le (fun x => !TL.pre [36] x) (sortU (headsR rs))
    omega
  · omega
theorem head_gl {rs : Rl} (h : ROk rs) {x : List Nat} (hx : x ∈ headsR rs) : gl x = true ∧ wideL x = false ∧ ∃ r ∈ rs, ∃ ps, r.2 = x :: ps := by
  obtain ⟨r, h1, h2⟩ := List.mem_filterMap.mp hx
  have hr := h r h1
  unfold headR at h2
  cases hq : r.2 with
  | nil => rw [hq] at h2; cases h2
  | cons p ps =>
    rw [hq] at h2 hr
    simp only at h2
    split at h2
    · cases h2
    · rename_i hw
      cases h2
      have hw' : wideL x = false := by simpa using hw
      refine ⟨?_, hw', r, h1, ps, hq⟩
      unfold wideL at hw'
      rw [Bool.or_eq_false_iff] at hw'
      rcases hr.lv x List.mem_cons_self with e | e
      · rw [e] at hw'; exact absurd hw'.2 (by decide)
      · unfold gw at e
        rw [Bool.or_eq_true] at e
        rcases e with e | e
        · have : x = [43] := by simpa using e
          rw [this] at hw'; exact absurd hw'.1 (by decide)
        · exact e
theorem fresh_ok {so : List (List Nat)} (h : so.length < 26) : gl (freshL so) = true ∧ freshL so ∉ so ∧ TL.pre [36] (freshL so) = false ∧ wideL (freshL so) = false ∧ freshL so ≠ [] := by
  have ex : ∃ c ∈ abcs, (abcs.filter fun c => !so.contains [c]).head? = some c ∧ [c] ∉ so := by
    cases hf : abcs.filter fun c => !so.contains [c] with
    | nil =>
      exfalso
      have all : ∀ c ∈ abcs, [c] ∈ so := fun c hc => by
        have := List.filter_eq_nil_iff.mp hf c hc
        simpa using this
      have nd : (abcs.map fun c => [c]).Nodup := by decide
      have sub : ∀ x ∈ abcs.map (fun c => [c]), x ∈ so := fun x hx => by
        obtain ⟨c, hc, e⟩ := List.mem_map.mp hx
        rw [← e]; exact all c hc
      have le : ∀ {a b : List (List Nat)}, a.Nodup → (∀ x ∈ a, x ∈ b) → a.length ≤ b.length := by
        intro a
        induction a with
        | nil => intro b _ _; exact Nat.zero_le _
        | cons x a ih =>
          intro b nd hs
          obtain ⟨b1, b2, e⟩ := List.append_of_mem (hs x List.mem_cons_self)
          rw [List.nodup_cons] at nd
          have := ih (b := b1 ++ b2) nd.2 fun y hy => by
            have h1 := hs y (List.mem_cons_of_mem _ hy)
            rw [e] at h1
            rcases List.mem_append.mp h1 with h2 | h2
            · exact List.mem_append_left _ h2
            · rcases List.mem_cons.mp h2 with h3 | h3
              · rw [h3] at hy; exact absurd hy nd.1
              · exact List.mem_append_right _ h3
          rw [e]
          simp at this ⊢
          omega
      have := le nd sub
      simp [abcs] at this
      omega
    | cons c cs =>
      have hm : c ∈ abcs.filter fun c => !so.contains [c] := by rw [hf]; exact List.mem_cons_self
      obtain ⟨h1, h2⟩ := List.mem_filter.mp hm
      exact ⟨c, h1, rfl, by simpa using h2⟩
  obtain ⟨c, h1, h2, h3⟩ := ex
  have e : freshL so = [c] := by unfold freshL; rw [h2]; rfl
  rw [e]
  have all : ∀ c ∈ abcs, gl [c] = true ∧ TL.pre [36] [c] = false ∧ wideL [c] = false := by decide
  obtain ⟨k1, k2, k3⟩ := all c h1
  exact ⟨k1, h3, k2, k3, by simp⟩
theorem mem_soR {rs : Rl} {f : Bool} {x : List Nat} : x ∈ soR rs f ↔ x ∈ headsR rs ∧ (f = true → TL.pre [36] x = false) := by
  unfold soR
  cases f with
  | true =>
    rw [if_pos rfl, List.mem_filter, mem_sortU]
    simp
  | false =>
    rw [if_neg Bool.false_ne_true, mem_sortU]
    simp
/-- which ends may be -/
def geN (n : Nat) (e : Bool) (ls : Lv) : Prop := (n = 0 → ls ≠ [] ∧ ls ≠ [[]]) ∧ (e = true → ls ≠ [])
theorem fnd_sound : ∀ (k : Nat) (w : Lv) (rs : Rl) (n : Nat) (e : Bool) (r : Lv), fnd k w rs n e = some r → WOk w → ROk rs → rs.length < 26 → geN n e r ∧ r.length ≤ k ∧ (∀ q ∈ r, gl q = true) ∧ fitsN (n == 0) w r = true ∧ letN (n == 0) rs r = false
  | k, w, rs, n, e, r, h, hw, hr, hl => by
    have ends : (endsW n e w && !letHere rs) = true → r = [] → geN n e r ∧ r.length ≤ k ∧ (∀ q ∈ r, gl q = true) ∧ fitsN (n == 0) w r = true ∧ letN (n == 0) rs r = false := fun h1 h2 => by
      subst h2
      unfold endsW at h1
      simp only [Bool.and_eq_true, bne_iff_ne, ne_eq, Bool.not_eq_true'] at h1
      obtain ⟨⟨a1, a2, a3⟩, a4⟩ := h1
      refine ⟨⟨fun z => absurd z a1, fun z => by rw [a2] at z; cases z⟩, Nat.zero_le _, (fun _ h => nomatch h), ?_, ?_⟩
      · rw [fitsN_nil, fitsL_nil hw]; exact a3
      · rw [letN_nil _ hr]; exact a4
    cases k with
    | zero =>
      rw [fnd] at h
      split at h
      · rename_i h1
        exact ends h1 (Option.some.inj h).symm
      · cases h
    | succ k =>
      rw [fnd] at h
      split at h
      · rename_i h1
        exact ends h1 (Option.some.inj h).symm
      · split at h
        · cases h
        · rename_i hne
          obtain ⟨l, h1, h2⟩ := List.exists_of_findSome?_eq_some h
          obtain ⟨t, h3, h4⟩ := Option.map_eq_some_iff.mp h2
          subst h4
          obtain ⟨i1, i2, i3, i4, i5⟩ := fnd_sound k (laterW w) (stepd rs l (n == 0)) (n + 1) (n == 0 && l == []) t h3 hw.later (hr.step l _) (Nat.lt_of_le_of_lt (List.length_filterMap_le _ _) hl)
          have n1 : (n + 1 == 0) = false := rfl
          rw [n1] at i4 i5
          rw [fitsN_false] at i4
          cases w with
          | nil => exact absurd rfl hne
          | cons p ps =>
            -- the level
            have lev : gl l = true ∧ (!((n == 0) && (wideL p && TL.pre [36] l)) && (if p = [35] then true else ([43] == p || l == p) && fitsL ps t)) = true := by
              unfold chs at h1
              cases hp : wideL p with
              | false =>
                simp only [hp, if_true, List.mem_singleton] at h1
                subst h1
                have hp' := hp
                unfold wideL at hp'
                rw [Bool.or_eq_false_iff] at hp'
                have n35 : l ≠ [35] := fun z => by rw [z] at hp'; exact absurd hp'.2 (by decide)
                refine ⟨?_, ?_⟩
                · rcases hw.lv l List.mem_cons_self with z | z
                  · exact absurd z n35
                  · unfold gw at z
                    rw [Bool.or_eq_true] at z
                    rcases z with z | z
                    · have : l = [43] := by simpa using z
                      rw [this] at hp'; exact absurd hp'.1 (by decide)
                    · exact z
                · rw [laterW_cons, if_neg n35] at i4
                  rw [if_neg n35, i4]
                  simp
              | true =>
                simp only [hp, Bool.true_eq_false, if_false] at h1
                have so26 : (soR rs (n == 0)).length < 26 := Nat.lt_of_le_of_lt (len_soR rs _) hl
                obtain ⟨g1, g2, g3, g4, g5⟩ := fresh_ok so26
                have hl2 : gl l = true ∧ ((n == 0) = true → TL.pre [36] l = false) := by
                  rcases List.mem_append.mp h1 with h1 | h1
                  · obtain ⟨m1, m2⟩ := mem_soR.mp h1
                    exact ⟨(head_gl hr m1).1, m2⟩
                  · rw [List.mem_singleton] at h1
                    rw [h1]
                    exact ⟨g1, fun _ => g3⟩
                refine ⟨hl2.1, ?_⟩
                have c1 : ((n == 0) && (true && TL.pre [36] l)) = false := by
                  cases hn : (n == 0) with
                  | false => rfl
                  | true => rw [hl2.2 hn]; rfl
                rw [c1]
                unfold wideL at hp
                by_cases hp35 : p = [35]
                · rw [if_pos hp35]; rfl
                · rw [if_neg hp35]
                  rw [laterW_cons, if_neg hp35] at i4
                  have : ([43] == p) = true := by
                    rw [Bool.or_eq_true] at hp
                    rcases hp with hp | hp
                    · exact hp
                    · have : p = [35] := (beq_iff_eq.mp hp).symm
                      exact absurd this hp35
                  rw [this, i4]
                  rfl
            refine ⟨⟨fun hn => ⟨by simp, fun z => ?_⟩, fun _ => by simp⟩, by simp; omega, fun q hq => ?_, ?_, ?_⟩
            · cases z
              exact i1.2 (by simp [hn]) rfl
            · rcases List.mem_cons.mp hq with z | z
              · rw [z]; exact lev.1
              · exact i3 q z
            · rw [fitsN_cons]; exact lev.2
            · rw [letN_step]; exact i5
theorem step_same {rs : Rl} (f : Bool) {x y : List Nat} (hx : x ∉ soR rs f) (hy : y ∉ soR rs f) (px : f = true → TL.pre [36] x = false) (py : f = true → TL.pre [36] y = false) : stepd rs x f = stepd rs y f := by
  have cong : ∀ l : Rl, (∀ r ∈ l, stepR x f r = stepR y f r) → l.filterMap (stepR x f) = l.filterMap (stepR y f) := by
    intro l
    induction l with
    | nil => intro _; rfl
    | cons a l ih =>
      intro h
      rw [List.filterMap_cons, List.filterMap_cons, h a List.mem_cons_self, ih fun r hr => h r (List.mem_cons_of_mem _ hr)]
  unfold stepd
  refine cong rs ?_
  intro r hr
  obtain ⟨l, q⟩ := r
  cases q with
  | nil => rfl
  | cons p ps =>
    have e1 : (f && (wideL p && TL.pre [36] x)) = (f && (wideL p && TL.pre [36] y)) := by
      cases f with
      | false => rfl
      | true => rw [px rfl, py rfl]
    have ne : ∀ z : List Nat, z ∉ soR rs f → (f = true → TL.pre [36] z = false) → wideL p = false → (z == p) = false := fun z hz pz hw => by
      rw [beq_eq_false_iff_ne]
      intro e
      subst e
      refine hz (mem_soR.mpr ⟨List.mem_filterMap.mpr ⟨(l, z :: ps), hr, ?_⟩, pz⟩)
      show (if wideL z = true then none else some z) = some z
      rw [hw]
      rfl
    simp only [stepR, e1]
    split
    · rfl
    · split
      · rfl
      · rename_i hp
        cases hw : wideL p with
        | false => rw [ne x hx px hw, ne y hy py hw]
        | true =>
          have : ([43] == p) = true := by
            unfold wideL at hw
            rw [Bool.or_eq_true] at hw
            rcases hw with hw | hw
            · exact hw
            · exact absurd (beq_iff_eq.mp hw).symm hp
          rw [this, Bool.true_or, Bool.true_or]
theorem fnd_complete : ∀ (k : Nat) (w : Lv) (rs : Rl) (n : Nat) (e : Bool), fnd k w rs n e = none → WOk w → ROk rs → rs.length < 26 → ∀ ls, geN n e ls → ls.length ≤ k → fitsN (n == 0) w ls = true → letN (n == 0) rs ls = true
  | k, w, rs, n, e, h, hw, hr, hl, ls, hg, hk, hf => by
    have nots : (endsW n e w && !letHere rs) = false := by
      cases k with
      | zero =>
        rw [fnd] at h
        split at h
        · cases h
        · rename_i z; simpa using z
      | succ k =>
        rw [fnd] at h
        split at h
        · cases h
        · rename_i z; simpa using z
    cases ls with
    | nil =>
      rw [letN_nil _ hr]
      rw [fitsN_nil, fitsL_nil hw] at hf
      have n0 : n ≠ 0 := fun z => (hg.1 z).1 rfl
      have e0 : e = false := by
        cases e with
        | false => rfl
        | true => exact absurd rfl (hg.2 rfl)
      have : endsW n e w = true := by
        unfold endsW
        rw [e0, hf]
        simp [n0]
      rw [this, Bool.true_and] at nots
      simpa using nots
    | cons x t =>
      cases k with
      | zero => simp at hk
      | succ k =>
        cases w with
        | nil => unfold fitsN fitsL at hf; simp at hf
        | cons p ps =>
          rw [fnd, nots, if_neg Bool.false_ne_true, if_neg (by simp), List.findSome?_eq_none_iff] at h
          have sub : ∀ l ∈ chs (p :: ps) rs (n == 0), fnd k (laterW (p :: ps)) (stepd rs l (n == 0)) (n + 1) (n == 0 && l == []) = none := fun l hl => by
            have := h l hl
            rwa [Option.map_eq_none_iff] at this
          rw [fitsN_cons] at hf
          rw [Bool.and_eq_true] at hf
          obtain ⟨f1, f2⟩ := hf
          have later : fitsN false (laterW (p :: ps)) t = true := by
            rw [fitsN_false, laterW_cons]
            by_cases hp : p = [35]
            · rw [if_pos hp]
              unfold fitsL
              rw [if_pos hp]
            · rw [if_neg hp]
              rw [if_neg hp, Bool.and_eq_true] at f2
              exact f2.2
          have go : ∀ l ∈ chs (p :: ps) rs (n == 0), stepd rs x (n == 0) = stepd rs l (n == 0) → (n = 0 → l = [] → t ≠ []) → letN (n == 0) rs (x :: t) = true := fun l hm hs ht => by
            rw [letN_step, hs]
            have := fnd_complete k _ _ _ _ (sub l hm) hw.later (hr.step l _) (Nat.lt_of_le_of_lt (List.length_filterMap_le _ _) hl) t ⟨fun z => by omega, fun z => by
              simp only [Bool.and_eq_true, beq_iff_eq] at z
              exact ht z.1 z.2⟩ (by simp at hk; omega) later
            exact this
          cases hp : wideL p with
          | false =>
            have hp' := hp
            unfold wideL at hp'
            rw [Bool.or_eq_false_iff] at hp'
            have n35 : p ≠ [35] := fun z => by rw [z] at hp'; exact absurd hp'.2 (by decide)
            rw [if_neg n35, Bool.and_eq_true, Bool.or_eq_true] at f2
            have ex : x = p := by
              rcases f2.1 with z | z
              · rw [hp'.1] at z; cases z
              · simpa using z
            refine go p (by unfold chs; simp [hp]) (by rw [ex]) fun hn hl2 z => ?_
            exact (hg.1 hn).2 (by rw [ex, hl2, z])
          | true =>
            have px : (n == 0) = true → TL.pre [36] x = false := fun z => by
              rw [z, hp] at f1
              simpa using f1
            have so26 : (soR rs (n == 0)).length < 26 := Nat.lt_of_le_of_lt (len_soR rs _) hl
            obtain ⟨g1, g2, g3, g4, g5⟩ := fresh_ok so26
            by_cases hx : x ∈ soR rs (n == 0)
            · refine go x (by unfold chs; simp [hp, hx]) rfl fun hn hl2 z => ?_
              exact (hg.1 hn).2 (by rw [hl2, z])
            · exact go (freshL (soR rs (n == 0))) (by unfold chs; simp [hp]) (step_same _ hx g2 px fun _ => g3) fun _ hl2 => absurd hl2 g5
end Tx
namespace Tx
open PySem L2 Pd
/-! ### rules, as the program runs them -/
abbrev tL (w : Lv) : Dt := .tup (lvs w)
abbrev rD (r : Bool × Lv) : Dt := .tup [.bl r.1, tL r.2]
theorem dEqB_tl (a b : Lv) (s : Sto) : dEqB s (tL a) (tL b) = some (a == b) := by
  simp only [tL, dEqB, toPyS, toPy, toPys_lvs, Option.map_some, PyData.depth, depth_lvs, PyData.eqv, eqvAll_lvs]
  rfl
theorem dEq_tl (a b : Lv) (s : Sto) : dEq (tL a) (tL b) s = .ok (.bl (a == b)) s := by simp only [dEq, dEqB_tl, Option.map_some, ofO_some]
theorem dNe_tl (a b : Lv) (s : Sto) : dNe (tL a) (tL b) s = .ok (.bl (!(a == b))) s := by simp only [dNe, dEqB_tl, Option.map_some, ofO_some]
theorem tl_nil : Dt.tup [] = tL [] := rfl
theorem tl_one (p : List Nat) : Dt.tup [.str (mkS p)] = tL [p] := rfl
/-- a list, given as data or in the store -/
def Has (L : List SP) (d : Dt) (l : List Dt) : Prop := d = .lst l ∨ ∃ i L1, d = .obj i ∧ L.Perm (At i (.lst l) :: L1)
theorem Has.asL {L : List SP} {d : Dt} {l : List Dt} {s : Sto} (h : Has L d l) (o : Own L s) : asL s d = some l := by
  rcases h with e | ⟨i, L1, e, p⟩
  · rw [e]; rfl
  · rw [e, asL_at, (o.perm p).get]
theorem Has.cons {L : List SP} {d : Dt} {l : List Dt} (A : SP) (h : Has L d l) : Has (A :: L) d l := by
  rcases h with e | ⟨i, L1, e, p⟩
  · exact .inl e
  · exact .inr ⟨i, A :: L1, e, (p.cons A).trans (List.Perm.swap ..)⟩
theorem Has.own {L : List SP} {i : Nat} {l : List Dt} : Has (At i (.lst l) :: L) (.obj i) l := .inr ⟨i, L, rfl, .refl _⟩
theorem Has.lst {L : List SP} {l : List Dt} : Has L (.lst l) l := .inl rfl
theorem iSeq_L {f : Ex} {env : En} {s s1 : Sto} {d : Dt} {l : List Dt} (hf : f env s = .ok d s1) (h : asL s1 d = some l) : iSeq f env s = .ok (l, fun s' => asQ s' d = some l) s1 := by
  unfold iSeq
  rw [bnd_def, hf]
  cases d with
  | lst l' => simp only [asQ, h]
  | lsk l' => simp only [asQ, h]
  | obj i => simp only [asQ, h]
  | _ => simp [Pd.asL] at h
theorem asQ_L {s : Sto} {d : Dt} {l : List Dt} (h : asL s d = some l) : asQ s d = some l := by
  cases d with
  | tup l' => simp [Pd.asL] at h
  | _ => exact h
theorem len_L {s : Sto} {d : Dt} {l : List Dt} (h : asL s d = some l) : dLen d s = .ok (.int l.length) s := by
  cases d with
  | lst l' => cases h; rfl
  | lsk l' => cases h; rfl
  | obj i =>
    rw [asL_at] at h
    rw [dLen_at]
    cases e : s[i]? with
    | none => rw [e] at h; cases h
    | some m =>
      rw [e] at h
      cases m with
      | lst l' => cases h; rfl
      | _ => cases h
  | _ => simp [Pd.asL] at h
theorem ev_wideL (p : List Nat) (s : Sto) : m_is_wide [.str (mkS p)] s = .ok (.bl (wideL p)) s := ev_is_wide p s
theorem truD_lv (w : Lv) (s : Sto) : truD s (tL w) = some (!(w == [])) := by cases w <;> rfl
theorem emp_lv (w : Lv) : (lvs w).isEmpty = (w == []) := by cases w <;> rfl
theorem ev_let_here {L : List SP} {d : Dt} {rs : Rl} {s : Sto} (o : Own L s) (hd : Has L d (rs.map rD)) : m_is_let_here [d] s = .ok (.bl (letHere rs)) s := by
  suffices k : WO (m_is_let_here [d] s) (fun r s' => r = .bl (letHere rs) ∧ s' = s) noX by
    obtain ⟨d, s', e, rfl, rfl⟩ := wo_iff k
    exact e
  unfold m_is_let_here b_is_let_here
  refine wf_fn ?_
  have hl := hd.asL o
  refine ws_seq ?_
  unfold u_is_let_here_1
  refine ws_for (f := rD) [1, 2] (fun pre _ s' => s' = s ∧ ∀ post, rs = pre ++ post → letHere rs = letHere post) (l := rs) (s0 := s) (iSeq_L (by simp only [runR, Nat.reduceAdd, Nat.reduceSub, Int.reduceBEq, Int.reduceEq, Int.reduceLT, Int.reduceLE, Int.reduceNeg, Int.reduceAdd, Int.reduceSub, Int.reduceMul, Int.reduceToNat, Nat.reduceLT, Nat.reduceLeDiff, reduceIte, Int.reduceNe, Int.reduceBNe, String.reduceBEq]) hl) rfl ⟨rfl, fun post h => by rw [h]; rfl⟩ ?_ ?_
  · rintro pre ⟨b, w⟩ post xs s' hall hx ⟨rfl, hj⟩
    obtain ⟨x, y, rfl⟩ := len2 hx
    refine ⟨asQ_L hl, _, rfl, ?_⟩
    have hh := hj _ hall
    rw [letHere] at hh
    unfold l_is_let_here_1
    have t1 : dEq (tL w) (.tup [.str (Str.ofString "#")]) s' = .ok (.bl (w == [[35]])) s' := by rw [t_hash, tl_one, dEq_tl]
    cases he : endR w with
    | true =>
      rw [he, if_pos rfl] at hh
      unfold endR at he
      refine ws_ifT (s1 := s') ?_ ?_
      · cases hw : (w == []) with
        | true => simp only [runR, Nat.reduceAdd, Nat.reduceSub, Int.reduceBEq, Int.reduceEq, Int.reduceLT, Int.reduceLE, Int.reduceNeg, Int.reduceAdd, Int.reduceSub, Int.reduceMul, Int.reduceToNat, Nat.reduceLT, Nat.reduceLeDiff, reduceIte, Int.reduceNe, Int.reduceBNe, String.reduceBEq, emp_lv, hw]
        | false =>
          rw [hw, Bool.false_or] at he
          simp only [runR, Nat.reduceAdd, Nat.reduceSub, Int.reduceBEq, Int.reduceEq, Int.reduceLT, Int.reduceLE, Int.reduceNeg, Int.reduceAdd, Int.reduceSub, Int.reduceMul, Int.reduceToNat, Nat.reduceLT, Nat.reduceLeDiff, reduceIte, Int.reduceNe, Int.reduceBNe, String.reduceBEq, emp_lv, hw, t1, he]
      · exact ws_ret (we_ok (d := .bl b) (s1 := s') (by simp only [runR, Nat.reduceAdd, Nat.reduceSub, Int.reduceBEq, Int.reduceEq, Int.reduceLT, Int.reduceLE, Int.reduceNeg, Int.reduceAdd, Int.reduceSub, Int.reduceMul, Int.reduceToNat, Nat.reduceLT, Nat.reduceLeDiff, reduceIte, Int.reduceNe, Int.reduceBNe, String.reduceBEq]) ⟨by rw [hh], rfl⟩)
    | false =>
      rw [he, if_neg Bool.false_ne_true] at hh
      unfold endR at he
      rw [Bool.or_eq_false_iff] at he
      refine ws_ifF (s1 := s') ?_ ?_
      · simp only [runR, Nat.reduceAdd, Nat.reduceSub, Int.reduceBEq, Int.reduceEq, Int.reduceLT, Int.reduceLE, Int.reduceNeg, Int.reduceAdd, Int.reduceSub, Int.reduceMul, Int.reduceToNat, Nat.reduceLT, Nat.reduceLeDiff, reduceIte, Int.reduceNe, Int.reduceBNe, String.reduceBEq, emp_lv, he.1, t1, he.2]
      · refine ws_next ⟨[_, _], rfl, rfl, rfl, fun post' h' => ?_⟩
        rw [hh]
        rw [hall, List.append_assoc] at h'
        have := List.append_cancel_left h'
        rw [List.singleton_append] at this
        cases this
        rfl
  · rintro xs s' hx ⟨rfl, hj⟩
    refine ⟨asQ_L hl, ?_⟩
    have hh := hj [] (by simp)
    dsimp only
    obtain ⟨x, y, rfl⟩ := len2 hx
    refine ws_rt (by unfold u_is_let_here_2; simp only [runR, Nat.reduceAdd, Nat.reduceSub, Int.reduceBEq, Int.reduceEq, Int.reduceLT, Int.reduceLE, Int.reduceNeg, Int.reduceAdd, Int.reduceSub, Int.reduceMul, Int.reduceToNat, Nat.reduceLT, Nat.reduceLeDiff, reduceIte, Int.reduceNe, Int.reduceBNe, String.reduceBEq] <;> exact rfl) ?_
    exact ⟨by rw [hh]; rfl, rfl⟩
theorem cut1_cons {α : Type} (a : α) (l : List α) : cutD (a :: l) none (some 1) = [a] := by rw [cut_one]; rfl
theorem cut1_nil {α : Type} : cutD ([] : List α) none (some 1) = [] := by rw [cut_one]; rfl
theorem dStarts_mk {a b : List Nat} {s : Sto} : dStarts (.str (mkS a)) (.str (mkS b)) s = .ok (.bl (TL.pre b a)) s := by simp [dStarts]
theorem step_stepped {d : Dt} {x : List Nat} {f : Bool} {r : Bool × Lv} {j : Nat} {l : List Dt} {s : Sto} (hj : s[j]? = some (.lst l)) (hl : l.length < 1000) :
    l_stepped_1 [some d, some (.str (mkS x)), some (.bl f), some (.obj j), some (.bl r.1), some (tL r.2)] s = .fl (.nx [some d, some (.str (mkS x)), some (.bl f), some (.obj j), some (.bl r.1), some (tL r.2)]) (match stepR x f r with | none => s | some r' => s.set j (.lst (l ++ [rD r']))) := by
  obtain ⟨b, q⟩ := r
  unfold l_stepped_1
  have hz := szl (n := l.length) (by omega)
  cases q with
  | nil =>
    have hr : stepR x f (b, []) = none := rfl
    simp only [runR, Nat.reduceAdd, Nat.reduceSub, Int.reduceBEq, Int.reduceEq, Int.reduceLT, Int.reduceLE, Int.reduceNeg, Int.reduceAdd, Int.reduceSub, Int.reduceMul, Int.reduceToNat, Nat.reduceLT, Nat.reduceLeDiff, reduceIte, Int.reduceNe, Int.reduceBNe, String.reduceBEq, ev_sl, evp_none, evp_some, dSl_tup, cut1_nil, List.isEmpty_nil, hr]
  | cons p ps =>
    simp only [stepR]
    have tail : ∀ f', f' = f → (f' = false ∨ (f' = true ∧ wideL p = false) ∨ (f' = true ∧ wideL p = true ∧ TL.pre [36] x = false)) ∨ (f' = true ∧ wideL p = true ∧ TL.pre [36] x = true) := by
      intro f' _
      cases f' <;> cases wideL p <;> cases TL.pre [36] x <;> simp
    rcases tail f rfl with hh | ⟨h1, h2, h3⟩
    · have hf : (f && (wideL p && TL.pre [36] x)) = false := by
        rcases hh with h | ⟨h, h'⟩ | ⟨h, h', h''⟩
        · rw [h]; rfl
        · rw [h, h']; rfl
        · rw [h, h', h'']; rfl
      rw [hf, if_neg Bool.false_ne_true]
      have fin : ∀ (F : Sx), (F [some d, some (.str (mkS x)), some (.bl f), some (.obj j), some (.bl b), some (tL (p :: ps))] s = .fl (.nx [some d, some (.str (mkS x)), some (.bl f), some (.obj j), some (.bl b), some (tL (p :: ps))]) (match (if p = [35] then some (b, p :: ps) else if ([43] == p || x == p) = true then some (b, ps) else none : Option (Bool × Lv)) with | none => s | some r' => s.set j (.lst (l ++ [rD r'])))) → sIf (tAnd (tTru (eSl nwF (eVar 5) none (some (eC (.int 1))))) (tNot (tAnd (tTru (eVar 2)) (tAnd (tTru (eCall m_is_wide [eOp dIx (eVar 5) (eC (.int 0))])) (tTru (eBm1 isStr dStarts (eVar 1) (eC (.str (Str.ofString "$"))))))))) F sNext [some d, some (.str (mkS x)), some (.bl f), some (.obj j), some (.bl b), some (tL (p :: ps))] s = .fl (.nx [some d, some (.str (mkS x)), some (.bl f), some (.obj j), some (.bl b), some (tL (p :: ps))]) (match (if p = [35] then some (b, p :: ps) else if ([43] == p || x == p) = true then some (b, ps) else none : Option (Bool × Lv)) with | none => s | some r' => s.set j (.lst (l ++ [rD r']))) := by
        intro F hF
        rcases hh with h | ⟨h, h'⟩ | ⟨h, h', h''⟩
        · subst h
          simp only [runR, Nat.reduceAdd, Nat.reduceSub, Int.reduceBEq, Int.reduceEq, Int.reduceLT, Int.reduceLE, Int.reduceNeg, Int.reduceAdd, Int.reduceSub, Int.reduceMul, Int.reduceToNat, Nat.reduceLT, Nat.reduceLeDiff, reduceIte, Int.reduceNe, Int.reduceBNe, String.reduceBEq, ev_sl, evp_none, evp_some, dSl_tup, cut1_cons, List.isEmpty_cons]; exact hF
        · subst h
          simp only [runR, Nat.reduceAdd, Nat.reduceSub, Int.reduceBEq, Int.reduceEq, Int.reduceLT, Int.reduceLE, Int.reduceNeg, Int.reduceAdd, Int.reduceSub, Int.reduceMul, Int.reduceToNat, Nat.reduceLT, Nat.reduceLeDiff, reduceIte, Int.reduceNe, Int.reduceBNe, String.reduceBEq, ev_sl, evp_none, evp_some, dSl_tup, cut1_cons, List.isEmpty_cons, ev_wideL, h']; exact hF
        · subst h
          simp only [runR, Nat.reduceAdd, Nat.reduceSub, Int.reduceBEq, Int.reduceEq, Int.reduceLT, Int.reduceLE, Int.reduceNeg, Int.reduceAdd, Int.reduceSub, Int.reduceMul, Int.reduceToNat, Nat.reduceLT, Nat.reduceLeDiff, reduceIte, Int.reduceNe, Int.reduceBNe, String.reduceBEq, ev_sl, evp_none, evp_some, dSl_tup, cut1_cons, List.isEmpty_cons, ev_wideL, h', h'', t_dollar, isStr_str, dStarts_mk]; exact hF
      refine fin _ ?_
      by_cases hp : p = [35]
      · subst hp
        simp only [runR, Nat.reduceAdd, Nat.reduceSub, Int.reduceBEq, Int.reduceEq, Int.reduceLT, Int.reduceLE, Int.reduceNeg, Int.reduceAdd, Int.reduceSub, Int.reduceMul, Int.reduceToNat, Nat.reduceLT, Nat.reduceLeDiff, reduceIte, Int.reduceNe, Int.reduceBNe, String.reduceBEq, t_hash, dEq_mk, isLst_at, hj, dApp_obj hj hz]
      · have hp' : (p == [35]) = false := by simpa using hp
        cases ho : ([43] == p || x == p) with
        | true => simp only [runR, Nat.reduceAdd, Nat.reduceSub, Int.reduceBEq, Int.reduceEq, Int.reduceLT, Int.reduceLE, Int.reduceNeg, Int.reduceAdd, Int.reduceSub, Int.reduceMul, Int.reduceToNat, Nat.reduceLT, Nat.reduceLeDiff, reduceIte, Int.reduceNe, Int.reduceBNe, String.reduceBEq, t_hash, dEq_mk, hp, hp', t_plus, dIn_two, ho, isLst_at, hj, dApp_obj hj hz, ev_sl, evp_none, evp_some, dSl_tup, cut_tail]
        | false => simp only [runR, Nat.reduceAdd, Nat.reduceSub, Int.reduceBEq, Int.reduceEq, Int.reduceLT, Int.reduceLE, Int.reduceNeg, Int.reduceAdd, Int.reduceSub, Int.reduceMul, Int.reduceToNat, Nat.reduceLT, Nat.reduceLeDiff, reduceIte, Int.reduceNe, Int.reduceBNe, String.reduceBEq, t_hash, dEq_mk, hp, hp', t_plus, dIn_two, ho]
    · subst h1
      simp only [runR, Nat.reduceAdd, Nat.reduceSub, Int.reduceBEq, Int.reduceEq, Int.reduceLT, Int.reduceLE, Int.reduceNeg, Int.reduceAdd, Int.reduceSub, Int.reduceMul, Int.reduceToNat, Nat.reduceLT, Nat.reduceLeDiff, reduceIte, Int.reduceNe, Int.reduceBNe, String.reduceBEq, ev_sl, evp_none, evp_some, dSl_tup, cut1_cons, List.isEmpty_cons, ev_wideL, h2, h3, t_dollar, isStr_str, dStarts_mk]
theorem ev_stepped {L : List SP} {d : Dt} {rs : Rl} {x : List Nat} {f : Bool} {s : Sto} (o : Own L s) (hd : Has L d (rs.map rD)) (hl : rs.length < 1000) : WO (m_stepped [d, .str (mkS x), .bl f] s) (fun r s' => ∃ j, r = .obj j ∧ Own (At j (.lst ((stepd rs x f).map rD)) :: L) s') noX := by
  unfold m_stepped b_stepped
  refine wf_fn ?_
  refine ws_step (by unfold u_stepped_1; simp only [runR, Nat.reduceAdd, Nat.reduceSub, Int.reduceBEq, Int.reduceEq, Int.reduceLT, Int.reduceLE, Int.reduceNeg, Int.reduceAdd, Int.reduceSub, Int.reduceMul, Int.reduceToNat, Nat.reduceLT, Nat.reduceLeDiff, reduceIte, Int.reduceNe, Int.reduceBNe, String.reduceBEq] <;> exact rfl) ?_
  refine ws_new o fun s1 o1 => ?_
  refine ws_seq ?_
  unfold u_stepped_2
  refine ws_for (f := rD) [4, 5] (fun pre _ s' => Own (At s.length (.lst ((stepd pre x f).map rD)) :: L) s') (l := rs) (s0 := s1) (iSeq_L (by simp only [runR, Nat.reduceAdd, Nat.reduceSub, Int.reduceBEq, Int.reduceEq, Int.reduceLT, Int.reduceLE, Int.reduceNeg, Int.reduceAdd, Int.reduceSub, Int.reduceMul, Int.reduceToNat, Nat.reduceLT, Nat.reduceLeDiff, reduceIte, Int.reduceNe, Int.reduceBNe, String.reduceBEq]) ((hd.cons _).asL o1)) rfl o1 ?_ ?_
  · rintro pre r post xs s' hall hx hj
    obtain ⟨y, z, rfl⟩ := len2 hx
    refine ⟨asQ_L ((hd.cons _).asL hj), _, rfl, ?_⟩
    have hpl : ((stepd pre x f).map rD).length < 1000 := by
      rw [List.length_map]
      have h1 : (stepd pre x f).length ≤ pre.length := List.length_filterMap_le _ _
      have h2 := congrArg List.length hall
      simp at h2
      omega
    have e := step_stepped (d := d) (x := x) (f := f) (r := r) hj.get hpl
    have e2 : stepd (pre ++ [r]) x f = stepd pre x f ++ (match stepR x f r with | none => [] | some r' => [r']) := by
      unfold stepd
      rw [List.filterMap_append, List.filterMap_cons]
      cases stepR x f r <;> rfl
    refine ws_nx e ⟨[_, _], rfl, rfl, ?_⟩
    rw [e2]
    cases hr : stepR x f r with
    | none => simpa using hj
    | some r' =>
      have := hj.set (.lst ((stepd pre x f).map rD ++ [rD r']))
      simpa using this
  · rintro xs s' hx hj
    obtain ⟨y, z, rfl⟩ := len2 hx
    refine ⟨asQ_L ((hd.cons _).asL hj), ?_⟩
    dsimp only
    refine ws_rt (by unfold u_stepped_3; simp only [runR, Nat.reduceAdd, Nat.reduceSub, Int.reduceBEq, Int.reduceEq, Int.reduceLT, Int.reduceLE, Int.reduceNeg, Int.reduceAdd, Int.reduceSub, Int.reduceMul, Int.reduceToNat, Nat.reduceLT, Nat.reduceLeDiff, reduceIte, Int.reduceNe, Int.reduceBNe, String.reduceBEq] <;> exact rfl) ?_
    exact ⟨_, rfl, hj⟩
theorem any_feqL (qs : Lv) (p : List Nat) : ((lvs qs).any fun e => feq e (.str (mkS p))) = qs.any fun q => q == p := by
  unfold lvs
  rw [List.any_map]
  congr 1
  funext q
  show (mkS q == mkS p) = (q == p)
  exact mkS_beq q p
theorem flat_lvsL (qs : Lv) : (lvs qs).all flatD = true := by
  unfold lvs
  rw [List.all_map, List.all_eq_true]
  intro q _
  rfl
theorem dNotIn_lvL (p : List Nat) (qs : Lv) (s : Sto) : dNotIn (.str (mkS p)) (.lst (lvs qs)) s = .ok (.bl (!qs.contains p)) s := by
  have : inB s (.str (mkS p)) (.lst (lvs qs)) = some (qs.any fun q => q == p) := by
    have h : (flatD (.str (mkS p)) && (lvs qs).all flatD) = true := by rw [flat_lvsL]; rfl
    simp only [inB, asQ_lst, h, if_true, any_feqL]
  have e : (qs.any fun q => q == p) = qs.contains p := by
    rw [Bool.eq_iff_iff, List.any_eq_true, List.contains_iff_mem]
    constructor
    · rintro ⟨q, h1, h2⟩
      rw [beq_iff_eq] at h2
      rwa [← h2]
    · intro h
      exact ⟨p, h, by simp⟩
  simp only [dNotIn, this, Option.map_some, ofO_some, e]
theorem t_abc : Str.ofString "abcdefghijklmnopqrstuvwxyz" = mkS abcs := by decide +kernel
theorem txtsD_lvs : ∀ ps : Lv, txtsD (lvs ps) = some (ps.map mkS)
  | [] => rfl
  | p :: ps => by
    have := txtsD_lvs ps
    unfold lvs at this ⊢
    rw [List.map_cons, txtsD, this]
    rfl
theorem chs_cons (p : List Nat) (ps : Lv) (rs : Rl) (f : Bool) : chs (p :: ps) rs f = if wideL p = false then [p] else soR rs f ++ [freshL (soR rs f)] := rfl
theorem ev_choices {L : List SP} {d : Dt} {rs : Rl} {w : Lv} {f : Bool} {s : Sto} (o : Own L s) (hd : Has L d (rs.map rD)) (hl : rs.length < 26) (hw : w ≠ []) : m_choices [tL w, d, .bl f] s = .ok (.lst (lvs (chs w rs f))) s := by
  suffices k : WO (m_choices [tL w, d, .bl f] s) (fun r s' => r = .lst (lvs (chs w rs f)) ∧ s' = s) noX by
    obtain ⟨d, s', e, rfl, rfl⟩ := wo_iff k
    exact e
  unfold m_choices b_choices
  refine wf_fn ?_
  cases w with
  | nil => exact absurd rfl hw
  | cons p ps =>
    cases hp : wideL p with
    | false =>
      refine ws_out (d := .lst [.str (mkS p)]) (s1 := s) (by unfold u_choices_1; simp only [runR, Nat.reduceAdd, Nat.reduceSub, Int.reduceBEq, Int.reduceEq, Int.reduceLT, Int.reduceLE, Int.reduceNeg, Int.reduceAdd, Int.reduceSub, Int.reduceMul, Int.reduceToNat, Nat.reduceLT, Nat.reduceLeDiff, reduceIte, Int.reduceNe, Int.reduceBNe, String.reduceBEq, ev_wideL, hp]) ?_
      refine ⟨?_, rfl⟩
      rw [chs_cons, if_pos hp]
      rfl
    | true =>
      refine ws_step (by unfold u_choices_1; simp only [runR, Nat.reduceAdd, Nat.reduceSub, Int.reduceBEq, Int.reduceEq, Int.reduceLT, Int.reduceLE, Int.reduceNeg, Int.reduceAdd, Int.reduceSub, Int.reduceMul, Int.reduceToNat, Nat.reduceLT, Nat.reduceLeDiff, reduceIte, Int.reduceNe, Int.reduceBNe, String.reduceBEq, ev_wideL, hp] <;> exact rfl) ?_
      have L1 := hd.asL o
      refine ws_mid (fun e s' => e = [some (tL (p :: ps)), some d, some (.bl f), some (.lst (lvs (sortU (headsR rs)))), none, none, none, none] ∧ s' = s) ?_ ?_
      · unfold u_choices_2
        refine ws_set (we_un ?_)
        let p0 : Bool × Lv → Bool := fun r => !(r.2 == []) && !(wideL (r.2.headD []))
        let g0 : Bool × Lv → Dt := fun r => .str (mkS (r.2.headD []))
        refine we_lcF (f := rD) (p := p0) (g := g0) (l := rs) (s0 := s) (iSeq_L (by simp only [runR, Nat.reduceAdd, Nat.reduceSub, Int.reduceBEq, Int.reduceEq, Int.reduceLT, Int.reduceLE, Int.reduceNeg, Int.reduceAdd, Int.reduceSub, Int.reduceMul, Int.reduceToNat, Nat.reduceLT, Nat.reduceLeDiff, reduceIte, Int.reduceNe, Int.reduceBNe, String.reduceBEq]) L1) (asQ_L L1) ?_ ?_
        · rintro ⟨b, q⟩ _
          refine ⟨_, rfl, ?_, ?_⟩
          · cases q with
            | nil => simp only [runR, Nat.reduceAdd, Nat.reduceSub, Int.reduceBEq, Int.reduceEq, Int.reduceLT, Int.reduceLE, Int.reduceNeg, Int.reduceAdd, Int.reduceSub, Int.reduceMul, Int.reduceToNat, Nat.reduceLT, Nat.reduceLeDiff, reduceIte, Int.reduceNe, Int.reduceBNe, String.reduceBEq, ev_sl, evp_none, evp_some, dSl_tup, cut1_nil, List.isEmpty_nil, p0]
            | cons a q =>
              have : ((a :: q : Lv) == []) = false := rfl
              cases ha : wideL a <;> simp only [runR, Nat.reduceAdd, Nat.reduceSub, Int.reduceBEq, Int.reduceEq, Int.reduceLT, Int.reduceLE, Int.reduceNeg, Int.reduceAdd, Int.reduceSub, Int.reduceMul, Int.reduceToNat, Nat.reduceLT, Nat.reduceLeDiff, reduceIte, Int.reduceNe, Int.reduceBNe, String.reduceBEq, ev_sl, evp_none, evp_some, dSl_tup, cut1_cons, List.isEmpty_cons, ev_wideL, ha, p0, this, List.headD_cons]
          · intro hh
            cases q with
            | nil => cases hh
            | cons a q => simp only [runR, Nat.reduceAdd, Nat.reduceSub, Int.reduceBEq, Int.reduceEq, Int.reduceLT, Int.reduceLE, Int.reduceNeg, Int.reduceAdd, Int.reduceSub, Int.reduceMul, Int.reduceToNat, Nat.reduceLT, Nat.reduceLeDiff, reduceIte, Int.reduceNe, Int.reduceBNe, String.reduceBEq, g0, List.headD_cons]
        · have e1 : (rs.filter p0).map g0 = lvs (headsR rs) := by
            unfold headsR lvs
            rw [List.map_filterMap]
            clear hd L1 hl
            induction rs with
            | nil => rfl
            | cons r rs ih =>
              obtain ⟨b, q⟩ := r
              rw [List.filterMap_cons, List.filter_cons]
              cases q with
              | nil => simpa [headR, p0] using ih
              | cons a q =>
                cases ha : wideL a with
                | true => simpa [headR, p0, ha] using ih
                | false => simpa [headR, p0, g0, ha] using ih
          rw [e1]
          refine wo_ok ?_
          have hlen : (headsR rs).length ≤ 4000 := Nat.le_trans (List.length_filterMap_le _ _) (by omega)
          refine wo_of (d := .lst (lvs (sortU (headsR rs)))) (s := s) ?_ ⟨rfl, rfl⟩
          unfold dSortTx
          rw [asL_lst]
          simp only [txtsD_lvs, List.length_map, if_pos hlen, ev_nwF, sortU]
          unfold lvs
          rw [List.map_map]
          congr 2
      · rintro e s' ⟨rfl, rfl⟩
        refine ws_mid (fun e s1 => (∃ z, e = [some (tL (p :: ps)), some d, some (.bl f), some (.lst (lvs (soR rs f))), none, none, z, none]) ∧ s1 = s') ?_ ?_
        · unfold u_choices_3 soR
          cases f with
          | false => exact ws_nx (by simp only [runR, Nat.reduceAdd, Nat.reduceSub, Int.reduceBEq, Int.reduceEq, Int.reduceLT, Int.reduceLE, Int.reduceNeg, Int.reduceAdd, Int.reduceSub, Int.reduceMul, Int.reduceToNat, Nat.reduceLT, Nat.reduceLeDiff, reduceIte, Int.reduceNe, Int.reduceBNe, String.reduceBEq]) ⟨⟨none, rfl⟩, rfl⟩
          | true =>
            refine ws_ifT (s1 := s') (by simp only [runR, Nat.reduceAdd, Nat.reduceSub, Int.reduceBEq, Int.reduceEq, Int.reduceLT, Int.reduceLE, Int.reduceNeg, Int.reduceAdd, Int.reduceSub, Int.reduceMul, Int.reduceToNat, Nat.reduceLT, Nat.reduceLeDiff, reduceIte, Int.reduceNe, Int.reduceBNe, String.reduceBEq]) (ws_set ?_)
            refine we_lcF (f := fun q : List Nat => Dt.str (mkS q)) (p := fun q => !TL.pre [36] q) (g := fun q => Dt.str (mkS q)) (l := sortU (headsR rs)) (s0 := s') (iSeq_L (d := .lst (lvs (sortU (headsR rs)))) (by simp only [runR, Nat.reduceAdd, Nat.reduceSub, Int.reduceBEq, Int.reduceEq, Int.reduceLT, Int.reduceLE, Int.reduceNeg, Int.reduceAdd, Int.reduceSub, Int.reduceMul, Int.reduceToNat, Nat.reduceLT, Nat.reduceLeDiff, reduceIte, Int.reduceNe, Int.reduceBNe, String.reduceBEq]) rfl) rfl ?_ ?_
            · intro q _
              refine ⟨_, rfl, ?_, fun _ => ?_⟩
              · simp only [runR, Nat.reduceAdd, Nat.reduceSub, Int.reduceBEq, Int.reduceEq, Int.reduceLT, Int.reduceLE, Int.reduceNeg, Int.reduceAdd, Int.reduceSub, Int.reduceMul, Int.reduceToNat, Nat.reduceLT, Nat.reduceLeDiff, reduceIte, Int.reduceNe, Int.reduceBNe, String.reduceBEq, t_dollar, isStr_str, dStarts_mk]
              · simp only [runR, Nat.reduceAdd, Nat.reduceSub, Int.reduceBEq, Int.reduceEq, Int.reduceLT, Int.reduceLE, Int.reduceNeg, Int.reduceAdd, Int.reduceSub, Int.reduceMul, Int.reduceToNat, Nat.reduceLT, Nat.reduceLeDiff, reduceIte, Int.reduceNe, Int.reduceBNe, String.reduceBEq]
            · exact wo_ok ⟨⟨_, rfl⟩, rfl⟩
        · rintro e s1 ⟨⟨z, rfl⟩, rfl⟩
          unfold u_choices_4
          have so26 : (soR rs f).length < 26 := Nat.lt_of_le_of_lt (len_soR rs f) hl
          refine ws_ret (we_op (we_ok (d := .lst (lvs (soR rs f))) (s1 := s1) (by simp only [runR, Nat.reduceAdd, Nat.reduceSub, Int.reduceBEq, Int.reduceEq, Int.reduceLT, Int.reduceLE, Int.reduceNeg, Int.reduceAdd, Int.reduceSub, Int.reduceMul, Int.reduceToNat, Nat.reduceLT, Nat.reduceLeDiff, reduceIte, Int.reduceNe, Int.reduceBNe, String.reduceBEq]) ?_))
          refine we_lst (wa_cons (we_op ?_))
          refine we_lcF (f := fun c : Nat => Dt.str (mkS [c])) (p := fun c => !(soR rs f).contains [c]) (g := fun c => Dt.str (mkS [c])) (l := abcs) (s0 := s1) (ok := fun _ => True) (by rw [t_abc]; simp only [runR, Nat.reduceAdd, Nat.reduceSub, Int.reduceBEq, Int.reduceEq, Int.reduceLT, Int.reduceLE, Int.reduceNeg, Int.reduceAdd, Int.reduceSub, Int.reduceMul, Int.reduceToNat, Nat.reduceLT, Nat.reduceLeDiff, reduceIte, Int.reduceNe, Int.reduceBNe, String.reduceBEq] <;> exact rfl) trivial ?_ ?_
          · intro c _
            refine ⟨_, rfl, ?_, fun _ => ?_⟩
            · simp only [runR, Nat.reduceAdd, Nat.reduceSub, Int.reduceBEq, Int.reduceEq, Int.reduceLT, Int.reduceLE, Int.reduceNeg, Int.reduceAdd, Int.reduceSub, Int.reduceMul, Int.reduceToNat, Nat.reduceLT, Nat.reduceLeDiff, reduceIte, Int.reduceNe, Int.reduceBNe, String.reduceBEq, dNotIn_lvL]
            · simp only [runR, Nat.reduceAdd, Nat.reduceSub, Int.reduceBEq, Int.reduceEq, Int.reduceLT, Int.reduceLE, Int.reduceNeg, Int.reduceAdd, Int.reduceSub, Int.reduceMul, Int.reduceToNat, Nat.reduceLT, Nat.reduceLeDiff, reduceIte, Int.reduceNe, Int.reduceBNe, String.reduceBEq]
          · refine wo_ok (we_ok (d := .int 0) (s1 := s1) (by simp only [runR, Nat.reduceAdd, Nat.reduceSub, Int.reduceBEq, Int.reduceEq, Int.reduceLT, Int.reduceLE, Int.reduceNeg, Int.reduceAdd, Int.reduceSub, Int.reduceMul, Int.reduceToNat, Nat.reduceLT, Nat.reduceLeDiff, reduceIte, Int.reduceNe, Int.reduceBNe, String.reduceBEq]) ?_)
            have fr := fresh_ok so26
            cases hf : abcs.filter fun c => !(soR rs f).contains [c] with
            | nil =>
              exfalso
              have : freshL (soR rs f) = [97] := by unfold freshL; rw [hf]; rfl
              rw [this] at fr
              have h97 := List.filter_eq_nil_iff.mp hf 97 (by decide)
              simp at h97
              exact fr.2.1 h97
            | cons c cs =>
              have e1 : freshL (soR rs f) = [c] := by unfold freshL; rw [hf]; rfl
              refine wo_of (d := .str (mkS [c])) (s := s1) (by simp only [runR, Nat.reduceAdd, Nat.reduceSub, Int.reduceBEq, Int.reduceEq, Int.reduceLT, Int.reduceLE, Int.reduceNeg, Int.reduceAdd, Int.reduceSub, Int.reduceMul, Int.reduceToNat, Nat.reduceLT, Nat.reduceLeDiff, reduceIte, Int.reduceNe, Int.reduceBNe, String.reduceBEq]) (wa_nil (wo_ok ?_))
              refine wo_of (d := .lst (lvs (chs (p :: ps) rs f))) (s := s1) ?_ ⟨rfl, rfl⟩
              rw [chs_cons, if_neg (by rw [hp]; decide), e1]
              rw [dAdd_any (l := lvs (soR rs f)) (m := [.str (mkS [c])]) rfl rfl (by rw [show (lvs (soR rs f)).length = (soR rs f).length from List.length_map _]; simp; omega)]
              rw [ev_nwF]
              unfold lvs
              rw [List.map_append]
              rfl
end Tx
namespace Tx
open PySem L2 Pd
/-! ### the search, with what it knows -/
def tK (w : Lv) : NestedKey := .tup (w.map fun l => .text (mkS l))
def bK (b : Bool) : NestedKey := .num (if b = true then 1 else 0)
def rK (r : Bool × Lv) : NestedKey := .tup [bK r.1, tK r.2]
def kK (w : Lv) (rs : Rl) (n : Nat) (e : Bool) : NestedKey := .tup [tK w, .tup (rs.map rK), .num n, bK e]
theorem tK_inj {a b : Lv} (h : tK a = tK b) : a = b := by
  have h1 := NestedKey.tup.inj h
  clear h
  induction a generalizing b with
  | nil => cases b with
    | nil => rfl
    | cons y b => cases h1
  | cons x a ih => cases b with
    | nil => cases h1
    | cons y b =>
      rw [List.map_cons, List.map_cons] at h1
      obtain ⟨h2, h3⟩ := List.cons.inj h1
      rw [mkS_inj (NestedKey.text.inj h2), ih h3]
theorem bK_inj {a b : Bool} (h : bK a = bK b) : a = b := by
  unfold bK at h
  have := NestedKey.num.inj h
  cases a <;> cases b <;> simp at this ⊢
theorem rK_inj {a b : Bool × Lv} (h : rK a = rK b) : a = b := by
  have h1 := NestedKey.tup.inj h
  simp only [List.cons.injEq, and_true] at h1
  exact Prod.ext (bK_inj h1.1) (tK_inj h1.2)
theorem rsK_inj : ∀ {a b : Rl}, a.map rK = b.map rK → a = b
  | [], [], _ => rfl
  | [], _ :: _, h => by cases h
  | _ :: _, [], h => by cases h
  | x :: a, y :: b, h => by
    rw [List.map_cons, List.map_cons] at h
    obtain ⟨h2, h3⟩ := List.cons.inj h
    rw [rK_inj h2, rsK_inj h3]
theorem kK_inj {w w' : Lv} {rs rs' : Rl} {n n' : Nat} {e e' : Bool} (h : kK w rs n e = kK w' rs' n' e') : w = w' ∧ rs = rs' ∧ n = n' ∧ e = e' := by
  have h1 := NestedKey.tup.inj h
  simp only [List.cons.injEq, and_true] at h1
  obtain ⟨a, b, c, d⟩ := h1
  exact ⟨tK_inj a, rsK_inj (NestedKey.tup.inj b), by have := NestedKey.num.inj c; omega, bK_inj d⟩
theorem nkDs_lvs : ∀ w : Lv, nkDs (lvs w) = some (w.map fun l => NestedKey.text (mkS l))
  | [] => rfl
  | p :: w => by
    have := nkDs_lvs w
    unfold lvs at this ⊢
    rw [List.map_cons, nkDs, this]
    rfl
theorem nkD_tl (w : Lv) : nkD (tL w) = some (tK w) := by rw [tL, nkD, nkDs_lvs]; rfl
theorem nkD_rD (r : Bool × Lv) : nkD (rD r) = some (rK r) := by
  rw [rD, nkD, nkDs, nkDs, nkDs, nkD_tl]
  rfl
theorem nkDs_rs : ∀ rs : Rl, nkDs (rs.map rD) = some (rs.map rK)
  | [] => rfl
  | r :: rs => by rw [List.map_cons, nkDs, nkDs_rs rs, nkD_rD]; rfl
theorem dp_t (w : Lv) : (tK w).depth ≤ 1 := by
  have : NestedKey.depthAll (w.map fun l => NestedKey.text (mkS l)) = 0 := by
    induction w with
    | nil => rfl
    | cons p w ih => rw [List.map_cons, NestedKey.depthAll, ih]; rfl
  rw [tK, NestedKey.depth, this]
  omega
theorem dp_r (r : Bool × Lv) : (rK r).depth ≤ 2 := by
  have := dp_t r.2
  rw [rK, NestedKey.depth, NestedKey.depthAll, NestedKey.depthAll, NestedKey.depthAll, bK, NestedKey.depth]
  omega
theorem dp_rs (rs : Rl) : NestedKey.depthAll (rs.map rK) ≤ 2 := by
  induction rs with
  | nil => exact Nat.zero_le _
  | cons r rs ih =>
    have := dp_r r
    rw [List.map_cons, NestedKey.depthAll]
    omega
theorem nkT_kK (w : Lv) (rs : Rl) (n : Nat) (e : Bool) : nkT (.tup [tL w, .tup (rs.map rD), .int n, .bl e]) = some (kK w rs n e) := by
  have h : nkD (.tup [tL w, .tup (rs.map rD), .int n, .bl e]) = some (kK w rs n e) := by
    have h2 : nkD (.tup (rs.map rD)) = some (.tup (rs.map rK)) := by rw [nkD, nkDs_rs]; rfl
    rw [nkD, nkDs, nkDs, nkDs, nkDs, nkDs, nkD_tl, h2]
    rfl
  show (nkD (.tup [tL w, .tup (rs.map rD), .int n, .bl e])).bind (fun k => if k.depth ≤ 8 then some k else none) = _
  rw [h, Option.bind_some, if_pos]
  have h1 := dp_t w
  have h2 := dp_rs rs
  rw [kK, NestedKey.depth, NestedKey.depthAll, NestedKey.depthAll, NestedKey.depthAll, NestedKey.depthAll, NestedKey.depthAll, bK, NestedKey.depth, NestedKey.depth, NestedKey.depth]
  omega
/-! how many there may be -/
def subs {α : Type} : List α → List (List α)
  | [] => [[]]
  | x :: xs => subs xs ++ (subs xs).map (x :: ·)
theorem subs_len {α : Type} : ∀ l : List α, (subs l).length = 2 ^ l.length
  | [] => rfl
  | x :: xs => by rw [subs, List.length_append, List.length_map, subs_len xs, List.length_cons, Nat.pow_succ]; omega
theorem subs_mem {α : Type} {a l : List α} (h : a.Sublist l) : a ∈ subs l := by
  induction h with
  | slnil => exact List.mem_singleton.mpr rfl
  | cons x _ ih => exact List.mem_append_left _ ih
  | cons_cons x _ ih => exact List.mem_append_right _ (List.mem_map.mpr ⟨_, ih, rfl⟩)
def laN : Nat → Lv → Lv
  | 0, w => w
  | n + 1, w => laterW (laN n w)
def aftR (n : Nat) (r : Bool × Lv) : Bool × Lv := (r.1, laN n r.2)
def allK (w0 : Lv) (rs0 : Rl) : List NestedKey := (List.range 9).flatMap fun n => (subs (rs0.map (aftR n))).flatMap fun rs => [kK (laN n w0) rs n true, kK (laN n w0) rs n false]
theorem flat_len {α β : Type} {f : α → List β} {c : Nat} : ∀ {l : List α}, (∀ x ∈ l, (f x).length ≤ c) → (l.flatMap f).length ≤ l.length * c
  | [], _ => Nat.zero_le _
  | x :: l, h => by
    have h1 := h x List.mem_cons_self
    have h2 := flat_len (l := l) fun y hy => h y (List.mem_cons_of_mem _ hy)
    rw [List.flatMap_cons, List.length_append, List.length_cons, Nat.succ_mul]
    omega
theorem allK_len (w0 : Lv) {rs0 : Rl} (h : rs0.length ≤ 12) : (allK w0 rs0).length ≤ 73728 := by
  have h1 : 2 ^ rs0.length ≤ 2 ^ 12 := Nat.pow_le_pow_right (by decide) h
  have := flat_len (c := 8192) (l := List.range 9) (f := fun n => (subs (rs0.map (aftR n))).flatMap fun rs => [kK (laN n w0) rs n true, kK (laN n w0) rs n false]) fun n _ => by
    have h2 := flat_len (c := 2) (l := subs (rs0.map (aftR n))) (f := fun rs => [kK (laN n w0) rs n true, kK (laN n w0) rs n false]) fun _ _ => Nat.le_refl _
    rw [subs_len, List.length_map] at h2
    omega
  rw [List.length_range] at this
  exact this
structure Rch (w0 : Lv) (rs0 : Rl) (n : Nat) (w : Lv) (rs : Rl) : Prop where
  w : w = laN n w0
  r : rs.Sublist (rs0.map (aftR n))
theorem stepR_some {x : List Nat} {f : Bool} {r r' : Bool × Lv} (h : stepR x f r = some r') : r' = (r.1, laterW r.2) := by
  obtain ⟨b, q⟩ := r
  cases q with
  | nil => simp [stepR] at h
  | cons p ps =>
    simp only [stepR] at h
    split at h
    · cases h
    · split at h
      · rename_i hp
        cases h
        rw [laterW_cons, if_pos hp]
      · split at h
        · rename_i hp _
          cases h
          rw [laterW_cons, if_neg hp]
        · cases h
theorem stepd_sub (x : List Nat) (f : Bool) : ∀ rs : Rl, (stepd rs x f).Sublist (rs.map fun r => (r.1, laterW r.2))
  | [] => .slnil
  | r :: rs => by
    have ih := stepd_sub x f rs
    unfold stepd at ih ⊢
    rw [List.filterMap_cons, List.map_cons]
    cases h : stepR x f r with
    | none => exact ih.cons _
    | some r' => rw [stepR_some h]; exact ih.cons_cons _
theorem Rch.step {w0 : Lv} {rs0 : Rl} {n : Nat} {w : Lv} {rs : Rl} (h : Rch w0 rs0 n w rs) (x : List Nat) (f : Bool) : Rch w0 rs0 (n + 1) (laterW w) (stepd rs x f) := by
  refine ⟨by rw [h.w, laN], ?_⟩
  have h1 := (stepd_sub x f rs).trans (h.r.map fun r => (r.1, laterW r.2))
  rw [List.map_map] at h1
  exact h1
theorem Rch.key {w0 : Lv} {rs0 : Rl} {n : Nat} {w : Lv} {rs : Rl} (h : Rch w0 rs0 n w rs) (hn : n ≤ 8) (e : Bool) : kK w rs n e ∈ allK w0 rs0 := by
  refine List.mem_flatMap.mpr ⟨n, List.mem_range.mpr (by omega), List.mem_flatMap.mpr ⟨rs, subs_mem h.r, ?_⟩⟩
  rw [h.w]
  cases e
  · exact List.mem_cons_of_mem _ List.mem_cons_self
  · exact List.mem_cons_self
theorem Rch.len {w0 : Lv} {rs0 : Rl} {n : Nat} {w : Lv} {rs : Rl} (h : Rch w0 rs0 n w rs) : rs.length ≤ rs0.length := by
  have := h.r.length_le
  rwa [List.length_map] at this
def encO : Option Lv → Dt
  | none => .non
  | some r => tL r
structure Knw (w0 : Lv) (rs0 : Rl) (kvs : List (NestedKey × Dt)) : Prop where
  nd : (kvs.map (·.1)).Nodup
  ok : ∀ x ∈ kvs, ∃ n w rs e, n ≤ 8 ∧ Rch w0 rs0 n w rs ∧ x = (kK w rs n e, encO (fnd (8 - n) w rs n e))
theorem le_of_sub {α : Type} : ∀ {a b : List α}, a.Nodup → (∀ x ∈ a, x ∈ b) → a.length ≤ b.length := by
  intro a
  induction a with
  | nil => intro b _ _; exact Nat.zero_le _
  | cons x a ih =>
    intro b nd hs
    obtain ⟨b1, b2, e⟩ := List.append_of_mem (hs x List.mem_cons_self)
    rw [List.nodup_cons] at nd
    have := ih (b := b1 ++ b2) nd.2 fun y hy => by
      have h1 := hs y (List.mem_cons_of_mem _ hy)
      rw [e] at h1
      rcases List.mem_append.mp h1 with h2 | h2
      · exact List.mem_append_left _ h2
      · rcases List.mem_cons.mp h2 with h3 | h3
        · rw [h3] at hy; exact absurd hy nd.1
        · exact List.mem_append_right _ h3
    rw [e]
    simp at this ⊢
    omega
theorem Knw.len {w0 : Lv} {rs0 : Rl} {kvs : List (NestedKey × Dt)} (h : Knw w0 rs0 kvs) (h12 : rs0.length ≤ 12) : kvs.length < 1000000 := by
  have := le_of_sub h.nd (b := allK w0 rs0) fun k hk => by
    obtain ⟨x, hx, e⟩ := List.mem_map.mp hk
    obtain ⟨n, w, rs, e', h1, h2, h3⟩ := h.ok x hx
    rw [← e, h3]
    exact h2.key h1 e'
  rw [List.length_map] at this
  have := allK_len w0 h12
  omega
theorem Knw.get {w0 : Lv} {rs0 : Rl} {kvs : List (NestedKey × Dt)} (h : Knw w0 rs0 kvs) {w : Lv} {rs : Rl} {n : Nat} {e : Bool} {d : Dt} (hv : valA kvs (kK w rs n e) = some d) : d = encO (fnd (8 - n) w rs n e) := by
  obtain ⟨n', w', rs', e', h1, h2, h3⟩ := h.ok _ (valA_some hv)
  have hk := (Prod.mk.inj h3).1
  have hd := (Prod.mk.inj h3).2
  obtain ⟨rfl, rfl, rfl, rfl⟩ := kK_inj hk
  exact hd
theorem Knw.put {w0 : Lv} {rs0 : Rl} {kvs : List (NestedKey × Dt)} (h : Knw w0 rs0 kvs) {w : Lv} {rs : Rl} {n : Nat} {e : Bool} (hn : n ≤ 8) (hr : Rch w0 rs0 n w rs) : Knw w0 rs0 (putA kvs (kK w rs n e) (encO (fnd (8 - n) w rs n e))) := by
  have nd := put_nodup h.nd (kK w rs n e) (encO (fnd (8 - n) w rs n e))
  refine ⟨nd, fun x hx => ?_⟩
  have h1 := (valA_mem nd (k := x.1) (v := x.2)).mpr hx
  rw [valA_put] at h1
  split at h1
  · rename_i hk
    exact ⟨n, w, rs, e, hn, hr, Prod.ext hk.symm (Option.some.inj h1).symm⟩
  · exact h.ok x ((valA_mem h.nd).mp h1)
theorem Knw.nil (w0 : Lv) (rs0 : Rl) : Knw w0 rs0 [] := ⟨List.nodup_nil, fun _ h => nomatch h⟩
/-! the run -/
theorem lvs_len (w : Lv) : (lvs w).length = w.length := List.length_map _
theorem beq_snoc (ls : Lv) (l : List Nat) : (ls ++ [l] == [[]]) = (ls.length == 0 && l == []) := by
  cases ls with
  | nil => cases l <;> rfl
  | cons x ls => cases ls <;> cases x <;> rfl
theorem beq_len0 (ls : Lv) : (ls == []) = (ls.length == 0) := by cases ls <;> rfl
theorem dTup_L {s : Sto} {d : Dt} {l : List Dt} (h : asL s d = some l) : dTuple d s = .ok (.tup l) s := by
  unfold dTuple
  rw [asQ_L h]
  rfl
theorem dAdd_tl {a b : Lv} {s : Sto} (h : a.length + b.length ≤ 1000) : dAdd nwF (tL a) (tL b) s = .ok (tL (a ++ b)) s := by
  rw [tL, tL, dAdd_tup (by rw [lvs_len, lvs_len]; exact h)]
  unfold lvs
  rw [← List.map_append]
theorem fnd_len : ∀ {k : Nat} {w : Lv} {rs : Rl} {n : Nat} {e : Bool} {r : Lv}, fnd k w rs n e = some r → r.length ≤ k
  | 0, w, rs, n, e, r, h => by
    rw [fnd] at h
    split at h
    · cases h; exact Nat.zero_le _
    · cases h
  | k + 1, w, rs, n, e, r, h => by
    rw [fnd] at h
    split at h
    · cases h; exact Nat.zero_le _
    · split at h
      · cases h
      · obtain ⟨l, h1, h2⟩ := List.exists_of_findSome?_eq_some h
        obtain ⟨t, h3, h4⟩ := Option.map_eq_some_iff.mp h2
        have := fnd_len h3
        rw [← h4, List.length_cons]
        omega
theorem ws_nput {fo fi fv : Ex} {K : Ks} {env : En} {s : Sto} (h : WE fv env s (fun v s1 => ∃ x y s2 s3 s4, fo env s1 = .ok x s2 ∧ fi env s2 = .ok y s3 ∧ dNput s3 x y v = some s4 ∧ K.nx env s4) (fun c s' => K.ex c env s')) : WS (sNput fo fi fv) K env s := by
  unfold WS sNput
  unfold Pd.WE at h
  rw [sBnd_def]
  cases e : fv env s with
  | ok v s1 =>
    rw [e] at h
    obtain ⟨x, y, s2, s3, s4, h1, h2, h3, h4⟩ := h
    simp only [sBnd_def, h1, h2, h3]
    exact h4
  | exc c s1 => rw [e] at h; exact h
  | bad => rw [e] at h; exact h
section
variable {w0 : Lv} {rs0 : Rl} {a b : Nat} {R : List SP}
/-- what a search's go does at n levels -/
def GoOk (w0 : Lv) (rs0 : Rl) (a b : Nat) (R : List SP) (go : Fn) (n : Nat) : Prop := ∀ {w : Lv} {rs : Rl} {ls : Lv} {d : Dt} {kvs : List (NestedKey × Dt)} {R' : List SP} {s : Sto},
  ls.length = n → Rch w0 rs0 n w rs → Has (R' ++ R) d (rs.map rD) → Own (At a (.ins 0 [.obj b]) :: At b (.did kvs) :: (R' ++ R)) s → Knw w0 rs0 kvs →
  WO (go [.obj a, tL w, d, tL ls] s) (fun v s' => v = encO (fnd (8 - n) w rs n (ls == [[]])) ∧ ∃ kvs', Knw w0 rs0 kvs' ∧ Own (At a (.ins 0 [.obj b]) :: At b (.did kvs') :: (R' ++ R)) s') noX
theorem found_ok {go : Fn} {n : Nat} (h12 : rs0.length ≤ 12) (hn : n ≤ 8) (hg : n < 8 → GoOk w0 rs0 a b R go (n + 1)) {w : Lv} {rs : Rl} {ls : Lv} {d : Dt} {kvs : List (NestedKey × Dt)} {R' : List SP} {s : Sto}
    (hls : ls.length = n) (hr : Rch w0 rs0 n w rs) (hd : Has (R' ++ R) d (rs.map rD)) (o : Own (At a (.ins 0 [.obj b]) :: At b (.did kvs) :: (R' ++ R)) s) (hk : Knw w0 rs0 kvs) :
    WO (h_Search_found go [.obj a, tL w, d, tL ls] s) (fun v s' => v = encO (fnd (8 - n) w rs n (ls == [[]])) ∧ ∃ kvs', Knw w0 rs0 kvs' ∧ Own (At a (.ins 0 [.obj b]) :: At b (.did kvs') :: (R' ++ R)) s') noX := by
  have hl : rs.length ≤ 12 := Nat.le_trans hr.len h12
  unfold h_Search_found b_Search_found
  refine wf_fn ?_
  have n0 : (ls == []) = (n == 0) := by rw [beq_len0, hls]
  have t0 : dEq (tL ls) (.tup []) s = .ok (.bl (n == 0)) s := by rw [tl_nil, dEq_tl, n0]
  have t1 : dNe (tL ls) (.tup []) s = .ok (.bl (!(n == 0))) s := by rw [tl_nil, dNe_tl, n0]
  have t2 : dNe (tL ls) (.tup [.str (Str.ofString "")]) s = .ok (.bl (!(ls == [[]]))) s := by rw [t_nil, tl_one, dNe_tl]
  have t3 : dEq (tL w) (.tup []) s = .ok (.bl (w == [])) s := by rw [tl_nil, dEq_tl]
  have t4 : dEq (tL w) (.tup [.str (Str.ofString "#")]) s = .ok (.bl (w == [[35]])) s := by rw [t_hash, tl_one, dEq_tl]
  refine ws_step (e := [some (.obj a), some (tL w), some d, some (tL ls), some (.bl (endsW n (ls == [[]]) w)), none, none, none]) (s1 := s) ?_ ?_
  · unfold u_Search_found_1 endsW endR
    have bn : (n != 0) = !(n == 0) := rfl
    rw [bn]
    cases h1 : (n == 0) with
    | true => simp only [runR, Nat.reduceAdd, Nat.reduceSub, Int.reduceBEq, Int.reduceEq, Int.reduceLT, Int.reduceLE, Int.reduceNeg, Int.reduceAdd, Int.reduceSub, Int.reduceMul, Int.reduceToNat, Nat.reduceLT, Nat.reduceLeDiff, reduceIte, Int.reduceNe, Int.reduceBNe, String.reduceBEq, t1, h1]
    | false =>
      cases h2 : (ls == [[]]) with
      | true => simp only [runR, Nat.reduceAdd, Nat.reduceSub, Int.reduceBEq, Int.reduceEq, Int.reduceLT, Int.reduceLE, Int.reduceNeg, Int.reduceAdd, Int.reduceSub, Int.reduceMul, Int.reduceToNat, Nat.reduceLT, Nat.reduceLeDiff, reduceIte, Int.reduceNe, Int.reduceBNe, String.reduceBEq, t1, h1, t2, h2]
      | false =>
        cases h3 : (w == []) with
        | true => simp only [runR, Nat.reduceAdd, Nat.reduceSub, Int.reduceBEq, Int.reduceEq, Int.reduceLT, Int.reduceLE, Int.reduceNeg, Int.reduceAdd, Int.reduceSub, Int.reduceMul, Int.reduceToNat, Nat.reduceLT, Nat.reduceLeDiff, reduceIte, Int.reduceNe, Int.reduceBNe, String.reduceBEq, t1, h1, t2, h2, t3, h3]
        | false => simp only [runR, Nat.reduceAdd, Nat.reduceSub, Int.reduceBEq, Int.reduceEq, Int.reduceLT, Int.reduceLE, Int.reduceNeg, Int.reduceAdd, Int.reduceSub, Int.reduceMul, Int.reduceToNat, Nat.reduceLT, Nat.reduceLeDiff, reduceIte, Int.reduceNe, Int.reduceBNe, String.reduceBEq, t1, h1, t2, h2, t3, h3, t4]
  have lh := ev_let_here o ((hd.cons _).cons _)
  cases he : (endsW n (ls == [[]]) w && !letHere rs) with
  | true =>
    simp only [Bool.and_eq_true, Bool.not_eq_true'] at he
    refine ws_out (d := tL []) (s1 := s) (by unfold u_Search_found_2; simp only [runR, Nat.reduceAdd, Nat.reduceSub, Int.reduceBEq, Int.reduceEq, Int.reduceLT, Int.reduceLE, Int.reduceNeg, Int.reduceAdd, Int.reduceSub, Int.reduceMul, Int.reduceToNat, Nat.reduceLT, Nat.reduceLeDiff, reduceIte, Int.reduceNe, Int.reduceBNe, String.reduceBEq, he.1, lh, he.2]; rfl) ⟨?_, kvs, hk, o⟩
    have : fnd (8 - n) w rs n (ls == [[]]) = some [] := by
      cases 8 - n with
      | zero => rw [fnd, he.1, he.2]; rfl
      | succ k => rw [fnd, he.1, he.2]; rfl
    rw [this]
    rfl
  | false =>
    refine ws_step (e := [some (.obj a), some (tL w), some d, some (tL ls), some (.bl (endsW n (ls == [[]]) w)), none, none, none]) (s1 := s) ?_ ?_
    · unfold u_Search_found_2
      cases h1 : endsW n (ls == [[]]) w with
      | false => simp only [runR, Nat.reduceAdd, Nat.reduceSub, Int.reduceBEq, Int.reduceEq, Int.reduceLT, Int.reduceLE, Int.reduceNeg, Int.reduceAdd, Int.reduceSub, Int.reduceMul, Int.reduceToNat, Nat.reduceLT, Nat.reduceLeDiff, reduceIte, Int.reduceNe, Int.reduceBNe, String.reduceBEq]
      | true =>
        rw [h1, Bool.true_and, Bool.not_eq_false'] at he
        simp only [runR, Nat.reduceAdd, Nat.reduceSub, Int.reduceBEq, Int.reduceEq, Int.reduceLT, Int.reduceLE, Int.reduceNeg, Int.reduceAdd, Int.reduceSub, Int.reduceMul, Int.reduceToNat, Nat.reduceLT, Nat.reduceLeDiff, reduceIte, Int.reduceNe, Int.reduceBNe, String.reduceBEq, lh, he]
    by_cases h8 : n = 8
    · have h8' : ((n : Int) == 8) = true := by rw [h8]; rfl
      refine ws_out (d := .non) (s1 := s) (by
        unfold u_Search_found_3
        cases h3 : (w == []) <;> simp only [runR, Nat.reduceAdd, Nat.reduceSub, Int.reduceBEq, Int.reduceEq, Int.reduceLT, Int.reduceLE, Int.reduceNeg, Int.reduceAdd, Int.reduceSub, Int.reduceMul, Int.reduceToNat, Nat.reduceLT, Nat.reduceLeDiff, reduceIte, Int.reduceNe, Int.reduceBNe, String.reduceBEq, t3, h3, dLen_tup, lvs_len, hls, h8']) ⟨?_, kvs, hk, o⟩
      subst h8
      rw [Nat.sub_self, fnd, he]
      rfl
    · have h8' : ((n : Int) == 8) = false := by rw [beq_eq_false_iff_ne]; omega
      have ek : 8 - n = (8 - (n + 1)) + 1 := by omega
      cases w with
      | nil =>
        refine ws_out (d := .non) (s1 := s) (by
          unfold u_Search_found_3
          simp only [runR, Nat.reduceAdd, Nat.reduceSub, Int.reduceBEq, Int.reduceEq, Int.reduceLT, Int.reduceLE, Int.reduceNeg, Int.reduceAdd, Int.reduceSub, Int.reduceMul, Int.reduceToNat, Nat.reduceLT, Nat.reduceLeDiff, reduceIte, Int.reduceNe, Int.reduceBNe, String.reduceBEq, t3]) ⟨?_, kvs, hk, o⟩
        rw [ek, fnd, he]
        rfl
      | cons p ps =>
        have h3 : ((p :: ps : Lv) == []) = false := rfl
        refine ws_step (e := [some (.obj a), some (tL (p :: ps)), some d, some (tL ls), some (.bl (endsW n (ls == [[]]) (p :: ps))), none, none, none]) (s1 := s) ?_ ?_
        · unfold u_Search_found_3
          rw [h3] at t3
          simp only [runR, Nat.reduceAdd, Nat.reduceSub, Int.reduceBEq, Int.reduceEq, Int.reduceLT, Int.reduceLE, Int.reduceNeg, Int.reduceAdd, Int.reduceSub, Int.reduceMul, Int.reduceToNat, Nat.reduceLT, Nat.reduceLeDiff, reduceIte, Int.reduceNe, Int.reduceBNe, String.reduceBEq, t3, dLen_tup, lvs_len, hls, h8']
        refine ws_seq ?_
        unfold u_Search_found_4
        have ch := ev_choices (w := p :: ps) (f := (n == 0)) o ((hd.cons _).cons _) (by omega) (by simp)
        let F : List Nat → Option Lv := fun l => (fnd (8 - (n + 1)) (laterW (p :: ps)) (stepd rs l (n == 0)) (n + 1) (n == 0 && l == [])).map (l :: ·)
        have ef : fnd (8 - n) (p :: ps) rs n (ls == [[]]) = (chs (p :: ps) rs (n == 0)).findSome? F := by
          rw [ek, fnd, he]
          rfl
        refine ws_for (f := fun l : List Nat => Dt.str (mkS l)) [5, 6, 7] (fun pre _ s' => (∀ l ∈ pre, F l = none) ∧ ∃ kvs', Knw w0 rs0 kvs' ∧ Own (At a (.ins 0 [.obj b]) :: At b (.did kvs') :: (R' ++ R)) s') (l := chs (p :: ps) rs (n == 0)) (s0 := s) (iSeq_L (d := .lst (lvs (chs (p :: ps) rs (n == 0)))) (by simp only [runR, Nat.reduceAdd, Nat.reduceSub, Int.reduceBEq, Int.reduceEq, Int.reduceLT, Int.reduceLE, Int.reduceNeg, Int.reduceAdd, Int.reduceSub, Int.reduceMul, Int.reduceToNat, Nat.reduceLT, Nat.reduceLeDiff, reduceIte, Int.reduceNe, Int.reduceBNe, String.reduceBEq, t0, ch]) rfl) rfl ⟨(fun _ h => nomatch h), kvs, hk, o⟩ ?_ ?_
        · rintro pre l post xs s1 hall hx ⟨hpre, kv1, hk1, o1⟩
          obtain ⟨x, y, z, rfl⟩ := len3 hx
          refine ⟨rfl, _, rfl, ?_⟩
          unfold l_Search_found_1
          refine ws_step (e := [some (.obj a), some (tL (p :: ps)), some d, some (tL ls), some (.bl (endsW n (ls == [[]]) (p :: ps))), some (.str (mkS l)), some (tL (laterW (p :: ps))), z]) (s1 := s1) ?_ ?_
          · unfold w_Search_found_1
            rw [laterW_cons]
            by_cases hp : p = [35]
            · subst hp
              simp only [runR, Nat.reduceAdd, Nat.reduceSub, Int.reduceBEq, Int.reduceEq, Int.reduceLT, Int.reduceLE, Int.reduceNeg, Int.reduceAdd, Int.reduceSub, Int.reduceMul, Int.reduceToNat, Nat.reduceLT, Nat.reduceLeDiff, reduceIte, Int.reduceNe, Int.reduceBNe, String.reduceBEq, t_hash, dEq_mk]
            · have hp' : (p == [35]) = false := by simpa using hp
              simp only [runR, Nat.reduceAdd, Nat.reduceSub, Int.reduceBEq, Int.reduceEq, Int.reduceLT, Int.reduceLE, Int.reduceNeg, Int.reduceAdd, Int.reduceSub, Int.reduceMul, Int.reduceToNat, Nat.reduceLT, Nat.reduceLeDiff, reduceIte, Int.reduceNe, Int.reduceBNe, String.reduceBEq, t_hash, dEq_mk, hp', hp, ev_sl, evp_none, evp_some, dSl_tup, cut_tail]
          have t0' : dEq (tL ls) (.tup []) s1 = .ok (.bl (n == 0)) s1 := by rw [tl_nil, dEq_tl, n0]
          refine ws_mid (fun e s2 => e = [some (.obj a), some (tL (p :: ps)), some d, some (tL ls), some (.bl (endsW n (ls == [[]]) (p :: ps))), some (.str (mkS l)), some (tL (laterW (p :: ps))), some (encO (fnd (8 - (n + 1)) (laterW (p :: ps)) (stepd rs l (n == 0)) (n + 1) (n == 0 && l == [])))] ∧ ∃ kvs', Knw w0 rs0 kvs' ∧ Own (At a (.ins 0 [.obj b]) :: At b (.did kvs') :: (R' ++ R)) s2) ?_ ?_
          · unfold w_Search_found_2
            refine ws_set (we_meth (i := a) (fs' := [.obj b]) (s1 := s1) (by simp only [runR, Nat.reduceAdd, Nat.reduceSub, Int.reduceBEq, Int.reduceEq, Int.reduceLT, Int.reduceLE, Int.reduceNeg, Int.reduceAdd, Int.reduceSub, Int.reduceMul, Int.reduceToNat, Nat.reduceLT, Nat.reduceLeDiff, reduceIte, Int.reduceNe, Int.reduceBNe, String.reduceBEq]) o1.get ?_)
            refine wa_cons (we_ok (d := tL (laterW (p :: ps))) (s1 := s1) (by simp only [runR, Nat.reduceAdd, Nat.reduceSub, Int.reduceBEq, Int.reduceEq, Int.reduceLT, Int.reduceLE, Int.reduceNeg, Int.reduceAdd, Int.reduceSub, Int.reduceMul, Int.reduceToNat, Nat.reduceLT, Nat.reduceLeDiff, reduceIte, Int.reduceNe, Int.reduceBNe, String.reduceBEq]) ?_)
            refine wa_cons (we_call (wa_ok (ds := [d, .str (mkS l), .bl (n == 0)]) (s1 := s1) (by simp only [runR, Nat.reduceAdd, Nat.reduceSub, Int.reduceBEq, Int.reduceEq, Int.reduceLT, Int.reduceLE, Int.reduceNeg, Int.reduceAdd, Int.reduceSub, Int.reduceMul, Int.reduceToNat, Nat.reduceLT, Nat.reduceLeDiff, reduceIte, Int.reduceNe, Int.reduceBNe, String.reduceBEq, t0']) ?_))
            refine wo_mono (ev_stepped o1 ((hd.cons _).cons _) (by omega)) ?_ fun _ _ h => h.elim
            rintro v s2 ⟨j, rfl, o2⟩
            refine wa_cons (we_ok (d := tL (ls ++ [l])) (s1 := s2) ?_ (wa_nil ?_))
            · have := dAdd_tl (a := ls) (b := [l]) (s := s2) (by simp; omega)
              simp only [runR, Nat.reduceAdd, Nat.reduceSub, Int.reduceBEq, Int.reduceEq, Int.reduceLT, Int.reduceLE, Int.reduceNeg, Int.reduceAdd, Int.reduceSub, Int.reduceMul, Int.reduceToNat, Nat.reduceLT, Nat.reduceLeDiff, reduceIte, Int.reduceNe, Int.reduceBNe, String.reduceBEq, this]
              exact this
            · have o3 : Own (At a (.ins 0 [.obj b]) :: At b (.did kv1) :: ((At j (.lst ((stepd rs l (n == 0)).map rD)) :: R') ++ R)) s2 := by
                refine o2.perm ?_
                rw [List.cons_append]
                exact (List.Perm.swap ..).trans ((List.Perm.swap ..).cons _)
              refine wo_mono (hg (by omega) (ls := ls ++ [l]) (by simp [hls]) (hr.step l (n == 0)) Has.own o3 hk1) ?_ fun _ _ h => h.elim
              rintro v s3 ⟨rfl, kv2, hk2, o4⟩
              refine ⟨?_, kv2, hk2, ?_⟩
              · rw [beq_snoc, hls]
                rfl
              · rw [List.cons_append] at o4
                exact (o4.perm (((List.Perm.swap ..).cons _).trans (List.Perm.swap ..))).drop
          · rintro e s2 ⟨rfl, kv2, hk2, o2⟩
            unfold w_Search_found_3
            cases hv : fnd (8 - (n + 1)) (laterW (p :: ps)) (stepd rs l (n == 0)) (n + 1) (n == 0 && l == []) with
            | none =>
              refine ws_nx (by simp only [runR, Nat.reduceAdd, Nat.reduceSub, Int.reduceBEq, Int.reduceEq, Int.reduceLT, Int.reduceLE, Int.reduceNeg, Int.reduceAdd, Int.reduceSub, Int.reduceMul, Int.reduceToNat, Nat.reduceLT, Nat.reduceLeDiff, reduceIte, Int.reduceNe, Int.reduceBNe, String.reduceBEq, encO]; exact rfl) ⟨[_, _, _], rfl, rfl, fun q hq => ?_, kv2, hk2, o2⟩
              rcases List.mem_append.mp hq with h | h
              · exact hpre q h
              · rw [List.mem_singleton] at h
                subst h
                show Option.map _ _ = none
                rw [hv]
                rfl
            | some r =>
              have rl := fnd_len hv
              have t9 : dAdd nwF (.tup [.str (mkS l)]) (tL r) s2 = .ok (tL (l :: r)) s2 := dAdd_tl (a := [l]) (b := r) (s := s2) (by simp; omega)
              refine ws_rt (d := tL (l :: r)) (s1 := s2) (by simp only [runR, Nat.reduceAdd, Nat.reduceSub, Int.reduceBEq, Int.reduceEq, Int.reduceLT, Int.reduceLE, Int.reduceNeg, Int.reduceAdd, Int.reduceSub, Int.reduceMul, Int.reduceToNat, Nat.reduceLT, Nat.reduceLeDiff, reduceIte, Int.reduceNe, Int.reduceBNe, String.reduceBEq, encO, t9]) ⟨?_, kv2, hk2, o2⟩
              rw [ef, hall]
              have : F l = some (l :: r) := by
                show Option.map _ _ = _
                rw [hv]
                rfl
              rw [List.findSome?_append, List.findSome?_eq_none_iff.mpr hpre, List.findSome?_cons, this]
              rfl
        · rintro xs s1 hx ⟨hall, kv1, hk1, o1⟩
          obtain ⟨x, y, z, rfl⟩ := len3 hx
          refine ⟨rfl, ?_⟩
          dsimp only
          refine ws_rt (by unfold u_Search_found_5; simp only [runR, Nat.reduceAdd, Nat.reduceSub, Int.reduceBEq, Int.reduceEq, Int.reduceLT, Int.reduceLE, Int.reduceNeg, Int.reduceAdd, Int.reduceSub, Int.reduceMul, Int.reduceToNat, Nat.reduceLT, Nat.reduceLeDiff, reduceIte, Int.reduceNe, Int.reduceBNe, String.reduceBEq] <;> exact rfl) ?_
          refine ⟨?_, kv1, hk1, o1⟩
          rw [ef, List.findSome?_eq_none_iff.mpr hall]
          rfl
theorem go_ok (h12 : rs0.length ≤ 12) : ∀ (k m n : Nat), n + k = 8 → k < m → GoOk w0 rs0 a b R (r_Search_go m) n
  | k, 0, n, _, h => absurd h (Nat.not_lt_zero _)
  | k, m + 1, n, hn, hm => by
    rename_i w rs ls d kvs R' s
    intro hls hr hd o hk
    have hd0 := (hd.cons (At b (.did kvs))).cons (At a (.ins 0 [.obj b]))
    have hf : ∀ {s : Sto} {kvs : List (NestedKey × Dt)}, Own (At a (.ins 0 [.obj b]) :: At b (.did kvs) :: (R' ++ R)) s → Knw w0 rs0 kvs → _ := fun {s} {kvs} o hk => found_ok (go := r_Search_go m) h12 (by omega) (fun h8 => go_ok h12 (k - 1) m (n + 1) (by omega) (by omega)) hls hr hd o hk
    unfold r_Search_go b_Search_go
    refine wf_fn ?_
    have tt := dTup_L (hd0.asL o)
    have te : dEq (tL ls) (.tup [.str (Str.ofString "")]) s = .ok (.bl (ls == [[]])) s := by rw [t_nil, tl_one, dEq_tl]
    refine ws_step (e := [some (.obj a), some (tL w), some d, some (tL ls), some (.tup [tL w, .tup (rs.map rD), .int n, .bl (ls == [[]])])]) (s1 := s) ?_ ?_
    · unfold u_Search_go_1
      simp only [runR, Nat.reduceAdd, Nat.reduceSub, Int.reduceBEq, Int.reduceEq, Int.reduceLT, Int.reduceLE, Int.reduceNeg, Int.reduceAdd, Int.reduceSub, Int.reduceMul, Int.reduceToNat, Nat.reduceLT, Nat.reduceLeDiff, reduceIte, Int.reduceNe, Int.reduceBNe, String.reduceBEq, tt, te, lvs_len, hls]
    have ga := o.get
    have gb : s[b]? = some (.did kvs) := (Own.at_ (i := b) o (by repeat first | exact Tk.hd | apply Tk.tl))
    have fin : ∀ {s : Sto} {kvs : List (NestedKey × Dt)}, Own (At a (.ins 0 [.obj b]) :: At b (.did kvs) :: (R' ++ R)) s → Knw w0 rs0 kvs → valA kvs (kK w rs n (ls == [[]])) = some (encO (fnd (8 - n) w rs n (ls == [[]]))) → WS (u_Search_go_3 (r_Search_go m)) ⟨fun _ s => (fun v s' => v = encO (fnd (8 - n) w rs n (ls == [[]])) ∧ ∃ kvs', Knw w0 rs0 kvs' ∧ Own (At a (.ins 0 [.obj b]) :: At b (.did kvs') :: (R' ++ R)) s') .non s, fun v s' => v = encO (fnd (8 - n) w rs n (ls == [[]])) ∧ ∃ kvs', Knw w0 rs0 kvs' ∧ Own (At a (.ins 0 [.obj b]) :: At b (.did kvs') :: (R' ++ R)) s', fun _ _ => False, fun _ _ => False, fun c _ s => noX c s⟩ [some (.obj a), some (tL w), some d, some (tL ls), some (.tup [tL w, .tup (rs.map rD), .int n, .bl (ls == [[]])])] s := by
      intro s kvs o hk hv
      have ga := o.get
      have gb : s[b]? = some (.did kvs) := (Own.at_ (i := b) o (by repeat first | exact Tk.hd | apply Tk.tl))
      unfold u_Search_go_3
      refine ws_ret (we_ok (d := encO (fnd (8 - n) w rs n (ls == [[]]))) (s1 := s) ?_ ⟨rfl, kvs, hk, o⟩)
      have e1 : dNget (.obj b) (.tup [tL w, .tup (rs.map rD), .int n, .bl (ls == [[]])]) s = .ok (encO (fnd (8 - n) w rs n (ls == [[]]))) s := by
        unfold dNget
        rw [nkT_kK]
        simp only [didAt, gb, hv]
      simp only [runR, Nat.reduceAdd, Nat.reduceSub, Int.reduceBEq, Int.reduceEq, Int.reduceLT, Int.reduceLE, Int.reduceNeg, Int.reduceAdd, Int.reduceSub, Int.reduceMul, Int.reduceToNat, Nat.reduceLT, Nat.reduceLeDiff, reduceIte, Int.reduceNe, Int.reduceBNe, String.reduceBEq, ga, e1]
    have en : dNnotIn (.tup [tL w, .tup (rs.map rD), .int n, .bl (ls == [[]])]) (.obj b) s = .ok (.bl (!(valA kvs (kK w rs n (ls == [[]]))).isSome)) s := by
      unfold dNnotIn
      rw [nkT_kK]
      simp only [didAt, gb]
    cases hv : valA kvs (kK w rs n (ls == [[]])) with
    | some v =>
      rw [hv] at en
      refine ws_step (e := [some (.obj a), some (tL w), some d, some (tL ls), some (.tup [tL w, .tup (rs.map rD), .int n, .bl (ls == [[]])])]) (s1 := s) ?_ ?_
      · unfold u_Search_go_2
        simp only [runR, Nat.reduceAdd, Nat.reduceSub, Int.reduceBEq, Int.reduceEq, Int.reduceLT, Int.reduceLE, Int.reduceNeg, Int.reduceAdd, Int.reduceSub, Int.reduceMul, Int.reduceToNat, Nat.reduceLT, Nat.reduceLeDiff, reduceIte, Int.reduceNe, Int.reduceBNe, String.reduceBEq, ga, en, Option.isSome_some]
      · exact fin o hk (by rw [hv, hk.get hv])
    | none =>
      rw [hv] at en
      refine ws_mid (fun e s' => e = [some (.obj a), some (tL w), some d, some (tL ls), some (.tup [tL w, .tup (rs.map rD), .int n, .bl (ls == [[]])])] ∧ ∃ kvs', Knw w0 rs0 kvs' ∧ valA kvs' (kK w rs n (ls == [[]])) = some (encO (fnd (8 - n) w rs n (ls == [[]]))) ∧ Own (At a (.ins 0 [.obj b]) :: At b (.did kvs') :: (R' ++ R)) s') ?_ ?_
      · unfold u_Search_go_2
        refine ws_ifT (s1 := s) (by simp only [runR, Nat.reduceAdd, Nat.reduceSub, Int.reduceBEq, Int.reduceEq, Int.reduceLT, Int.reduceLE, Int.reduceNeg, Int.reduceAdd, Int.reduceSub, Int.reduceMul, Int.reduceToNat, Nat.reduceLT, Nat.reduceLeDiff, reduceIte, Int.reduceNe, Int.reduceBNe, String.reduceBEq, ga, en, Option.isSome_none]) ?_
        refine ws_nput (we_meth (i := a) (fs' := [.obj b]) (s1 := s) (by simp only [runR, Nat.reduceAdd, Nat.reduceSub, Int.reduceBEq, Int.reduceEq, Int.reduceLT, Int.reduceLE, Int.reduceNeg, Int.reduceAdd, Int.reduceSub, Int.reduceMul, Int.reduceToNat, Nat.reduceLT, Nat.reduceLeDiff, reduceIte, Int.reduceNe, Int.reduceBNe, String.reduceBEq]) ga (wa_ok (ds := [tL w, d, tL ls]) (s1 := s) (by simp only [runR, Nat.reduceAdd, Nat.reduceSub, Int.reduceBEq, Int.reduceEq, Int.reduceLT, Int.reduceLE, Int.reduceNeg, Int.reduceAdd, Int.reduceSub, Int.reduceMul, Int.reduceToNat, Nat.reduceLT, Nat.reduceLeDiff, reduceIte, Int.reduceNe, Int.reduceBNe, String.reduceBEq]) ?_))
        refine wo_mono (hf o hk) ?_ fun _ _ h => h.elim
        rintro v s1 ⟨rfl, kv1, hk1, o1⟩
        have ga1 := o1.get
        have o1' : Own (At b (.did kv1) :: At a (.ins 0 [.obj b]) :: (R' ++ R)) s1 := (Own.pm o1 (by repeat first | exact Pm.rfl | (apply Pm.cons; repeat first | exact Tk.hd | apply Tk.tl) | apply Pm.skip))
        have gb1 := o1'.get
        refine ⟨.obj b, .tup [tL w, .tup (rs.map rD), .int n, .bl (ls == [[]])], s1, s1, s1.set b (.did (putA kv1 (kK w rs n (ls == [[]])) (encO (fnd (8 - n) w rs n (ls == [[]]))))), by simp only [runR, Nat.reduceAdd, Nat.reduceSub, Int.reduceBEq, Int.reduceEq, Int.reduceLT, Int.reduceLE, Int.reduceNeg, Int.reduceAdd, Int.reduceSub, Int.reduceMul, Int.reduceToNat, Nat.reduceLT, Nat.reduceLeDiff, reduceIte, Int.reduceNe, Int.reduceBNe, String.reduceBEq, ga1], by simp only [runR, Nat.reduceAdd, Nat.reduceSub, Int.reduceBEq, Int.reduceEq, Int.reduceLT, Int.reduceLE, Int.reduceNeg, Int.reduceAdd, Int.reduceSub, Int.reduceMul, Int.reduceToNat, Nat.reduceLT, Nat.reduceLeDiff, reduceIte, Int.reduceNe, Int.reduceBNe, String.reduceBEq], ?_, rfl, _, hk1.put (e := (ls == [[]])) (by omega) hr, ?_, ?_⟩
        · unfold dNput
          rw [nkT_kK]
          simp only [didAt, gb1]
          rw [if_pos (szl (hk1.len h12))]
        · rw [valA_put, if_pos rfl]
        · have := o1'.set (.did (putA kv1 (kK w rs n (ls == [[]])) (encO (fnd (8 - n) w rs n (ls == [[]])))))
          exact (Own.pm this (by repeat first | exact Pm.rfl | (apply Pm.cons; repeat first | exact Tk.hd | apply Tk.tl) | apply Pm.skip))
      · rintro e s' ⟨rfl, kv1, hk1, hv1, o1⟩
        exact fin o1 hk1 hv1
end
end Tx
namespace Tx
open PySem L2 Pd
/-! ### rules, whole -/
structure Ru where
  l : Bool
  h : List Nat
  wd : String
  w : List Nat
def Ru.d (r : Ru) : Dt := .tup [.bl r.l, .str (mkS r.h), .str (Str.ofString r.wd), .str (mkS r.w)]
structure Ru.Ok (r : Ru) : Prop where
  h : r.h = [] ∨ isHearer r.h = true
  wd : r.wd = "say" ∨ r.wd = "hear" ∨ r.wd = "both"
  w : isWish r.w = true
def forR (h : List Nat) (word : String) (r : Ru) : Bool := ([] == r.h || h == r.h) && (word == r.wd || "both" == r.wd)
def rulO (rs : List Ru) (h : List Nat) (word : String) : List Ru := rs.filter (forR h word)
def lvR (r : Ru) : Bool × Lv := (r.l, splC 47 r.w)
def RsOk (rs : List Ru) : Prop := rs.length ≤ 12 ∧ ∀ r ∈ rs, r.Ok
theorem dIn_tfb {b : Bool} {s : Sto} : dNotIn (.bl b) (.tup [.bl true, .bl false]) s = .ok (.bl false) s := by
  cases b <;> rfl
theorem dNotIn_t3 {s : Sto} {x a b c : Str} : dNotIn (.str x) (.tup [.str a, .str b, .str c]) s = .ok (.bl (!(a == x || (b == x || c == x)))) s := by
  have e : inB s (.str x) (.tup [.str a, .str b, .str c]) = some ((a == x) || ((b == x) || ((c == x) || false))) := rfl
  simp only [dNotIn, e, Option.map_some, ofO_some, Bool.or_false]
theorem ev_look_rules {L : List SP} {d : Dt} {rs : List Ru} {s : Sto} (o : Own L s) (hd : Has L d (rs.map Ru.d)) (ok : RsOk rs) : m_look_rules [d] s = .ok .non s := by
  suffices k : WO (m_look_rules [d] s) (fun r s' => r = .non ∧ s' = s) noX by
    obtain ⟨d, s', e, rfl, rfl⟩ := wo_iff k
    exact e
  unfold m_look_rules b_look_rules
  refine wf_fn ?_
  have L1 := hd.asL o
  have ln := len_L L1
  rw [List.length_map] at ln
  have hg : ¬ ((12 : Int) < (rs.length : Int)) := by have := ok.1; omega
  refine ws_step (by unfold u_look_rules_1; simp only [runR, Nat.reduceAdd, Nat.reduceSub, Int.reduceBEq, Int.reduceEq, Int.reduceLT, Int.reduceLE, Int.reduceNeg, Int.reduceAdd, Int.reduceSub, Int.reduceMul, Int.reduceToNat, Nat.reduceLT, Nat.reduceLeDiff, reduceIte, Int.reduceNe, Int.reduceBNe, String.reduceBEq, ln, dGt, hg] <;> exact rfl) ?_
  unfold u_look_rules_2
  refine ws_for (f := Ru.d) [1] (fun _ _ s' => s' = s) (l := rs) (s0 := s) (iSeq_L (by simp only [runR, Nat.reduceAdd, Nat.reduceSub, Int.reduceBEq, Int.reduceEq, Int.reduceLT, Int.reduceLE, Int.reduceNeg, Int.reduceAdd, Int.reduceSub, Int.reduceMul, Int.reduceToNat, Nat.reduceLT, Nat.reduceLeDiff, reduceIte, Int.reduceNe, Int.reduceBNe, String.reduceBEq]) L1) rfl rfl ?_ ?_
  · rintro pre r post xs s' hall hx rfl
    obtain ⟨x, rfl⟩ := len1 hx
    refine ⟨asQ_L L1, _, rfl, ?_⟩
    have hr := ok.2 r (by rw [hall]; simp)
    have hw : ("say" == r.wd || ("hear" == r.wd || "both" == r.wd)) = true := by rcases hr.wd with h | h | h <;> rw [h] <;> rfl
    unfold l_look_rules_1
    refine ws_step (e := [some d, some r.d]) (s1 := s') ?_ ?_
    · unfold w_look_rules_1 Ru.d
      simp only [runR, Nat.reduceAdd, Nat.reduceSub, Int.reduceBEq, Int.reduceEq, Int.reduceLT, Int.reduceLE, Int.reduceNeg, Int.reduceAdd, Int.reduceSub, Int.reduceMul, Int.reduceToNat, Nat.reduceLT, Nat.reduceLeDiff, reduceIte, Int.reduceNe, Int.reduceBNe, String.reduceBEq, dIn_tfb, dNotIn_t3, hw]
    refine ws_step (e := [some d, some r.d]) (s1 := s') ?_ ?_
    · unfold w_look_rules_2 Ru.d
      rcases hr.h with h | h
      · rw [h]
        simp only [runR, Nat.reduceAdd, Nat.reduceSub, Int.reduceBEq, Int.reduceEq, Int.reduceLT, Int.reduceLE, Int.reduceNeg, Int.reduceAdd, Int.reduceSub, Int.reduceMul, Int.reduceToNat, Nat.reduceLT, Nat.reduceLeDiff, reduceIte, Int.reduceNe, Int.reduceBNe, String.reduceBEq, t_nil, dNe_mk]
      · have hne : (r.h == []) = false := by
          cases he : r.h with
          | nil => rw [he] at h; exact absurd h (by decide)
          | cons => rfl
        simp only [runR, Nat.reduceAdd, Nat.reduceSub, Int.reduceBEq, Int.reduceEq, Int.reduceLT, Int.reduceLE, Int.reduceNeg, Int.reduceAdd, Int.reduceSub, Int.reduceMul, Int.reduceToNat, Nat.reduceLT, Nat.reduceLeDiff, reduceIte, Int.reduceNe, Int.reduceBNe, String.reduceBEq, t_nil, dNe_mk, hne, ev_look_hearer, h]
    · refine ws_nx (e := [some d, some r.d]) (s1 := s') ?_ ⟨[_], rfl, rfl, rfl⟩
      unfold w_look_rules_3 Ru.d
      simp only [runR, Nat.reduceAdd, Nat.reduceSub, Int.reduceBEq, Int.reduceEq, Int.reduceLT, Int.reduceLE, Int.reduceNeg, Int.reduceAdd, Int.reduceSub, Int.reduceMul, Int.reduceToNat, Nat.reduceLT, Nat.reduceLeDiff, reduceIte, Int.reduceNe, Int.reduceBNe, String.reduceBEq, ev_look_wish, hr.w]
  · rintro xs s' hx rfl
    exact ⟨asQ_L L1, rfl, rfl⟩
def twD (r : Ru) : Dt := .tup [.bl r.l, .str (mkS r.w)]
theorem ev_rules_of {L : List SP} {d : Dt} {rs : List Ru} {h : List Nat} {word : String} {s : Sto} (o : Own L s) (hd : Has L d (rs.map Ru.d)) : m_rules_of [d, .str (mkS h), .str (Str.ofString word)] s = .ok (.lst ((rulO rs h word).map twD)) s := by
  suffices k : WO (m_rules_of [d, .str (mkS h), .str (Str.ofString word)] s) (fun r s' => r = .lst ((rulO rs h word).map twD) ∧ s' = s) noX by
    obtain ⟨d, s', e, rfl, rfl⟩ := wo_iff k
    exact e
  unfold m_rules_of b_rules_of
  refine wf_fn (ws_ret ?_)
  have L1 := hd.asL o
  refine we_lcF (f := Ru.d) (p := forR h word) (g := twD) (l := rs) (s0 := s) (iSeq_L (by simp only [runR, Nat.reduceAdd, Nat.reduceSub, Int.reduceBEq, Int.reduceEq, Int.reduceLT, Int.reduceLE, Int.reduceNeg, Int.reduceAdd, Int.reduceSub, Int.reduceMul, Int.reduceToNat, Nat.reduceLT, Nat.reduceLeDiff, reduceIte, Int.reduceNe, Int.reduceBNe, String.reduceBEq]) L1) (asQ_L L1) ?_ (wo_ok ⟨rfl, rfl⟩)
  intro r _
  refine ⟨_, rfl, ?_, fun _ => ?_⟩
  · unfold forR Ru.d
    cases h1 : ([] == r.h || h == r.h) <;> simp only [runR, Nat.reduceAdd, Nat.reduceSub, Int.reduceBEq, Int.reduceEq, Int.reduceLT, Int.reduceLE, Int.reduceNeg, Int.reduceAdd, Int.reduceSub, Int.reduceMul, Int.reduceToNat, Nat.reduceLT, Nat.reduceLeDiff, reduceIte, Int.reduceNe, Int.reduceBNe, String.reduceBEq, t_nil, dIn_two, h1, dIn_t2]
  · unfold Ru.d twD
    simp only [runR, Nat.reduceAdd, Nat.reduceSub, Int.reduceBEq, Int.reduceEq, Int.reduceLT, Int.reduceLE, Int.reduceNeg, Int.reduceAdd, Int.reduceSub, Int.reduceMul, Int.reduceToNat, Nat.reduceLT, Nat.reduceLeDiff, reduceIte, Int.reduceNe, Int.reduceBNe, String.reduceBEq]
def letC : List Ru → List Nat → Bool
  | [], _ => true
  | r :: rs, n => if fitsC r.w n = true then r.l else letC rs n
theorem ev_may_say {L : List SP} {d : Dt} {rs : List Ru} {h n : List Nat} {s : Sto} (o : Own L s) (hd : Has L d (rs.map Ru.d)) (ok : RsOk rs) (hh : isHearer h = true) (hn : isName n = true) : m_may_say [d, .str (mkS h), .str (mkS n)] s = .ok (.bl (letC (rulO rs h "say") n)) s := by
  suffices k : WO (m_may_say [d, .str (mkS h), .str (mkS n)] s) (fun r s' => r = .bl (letC (rulO rs h "say") n) ∧ s' = s) noX by
    obtain ⟨d, s', e, rfl, rfl⟩ := wo_iff k
    exact e
  unfold m_may_say b_may_say
  refine wf_fn ?_
  have lr := ev_look_rules o hd ok
  refine ws_step (by unfold u_may_say_1; simp only [runR, Nat.reduceAdd, Nat.reduceSub, Int.reduceBEq, Int.reduceEq, Int.reduceLT, Int.reduceLE, Int.reduceNeg, Int.reduceAdd, Int.reduceSub, Int.reduceMul, Int.reduceToNat, Nat.reduceLT, Nat.reduceLeDiff, reduceIte, Int.reduceNe, Int.reduceBNe, String.reduceBEq, lr] <;> exact rfl) ?_
  refine ws_step (by unfold u_may_say_2; simp only [runR, Nat.reduceAdd, Nat.reduceSub, Int.reduceBEq, Int.reduceEq, Int.reduceLT, Int.reduceLE, Int.reduceNeg, Int.reduceAdd, Int.reduceSub, Int.reduceMul, Int.reduceToNat, Nat.reduceLT, Nat.reduceLeDiff, reduceIte, Int.reduceNe, Int.reduceBNe, String.reduceBEq, ev_look_hearer, hh] <;> exact rfl) ?_
  refine ws_step (by unfold u_may_say_3; simp only [runR, Nat.reduceAdd, Nat.reduceSub, Int.reduceBEq, Int.reduceEq, Int.reduceLT, Int.reduceLE, Int.reduceNeg, Int.reduceAdd, Int.reduceSub, Int.reduceMul, Int.reduceToNat, Nat.reduceLT, Nat.reduceLeDiff, reduceIte, Int.reduceNe, Int.reduceBNe, String.reduceBEq, ev_look_name, hn] <;> exact rfl) ?_
  refine ws_seq ?_
  unfold u_may_say_4
  have ro := ev_rules_of (h := h) (word := "say") o hd
  refine ws_for (f := twD) [3, 4] (fun pre _ s' => s' = s ∧ ∀ post, rulO rs h "say" = pre ++ post → letC (rulO rs h "say") n = letC post n) (l := rulO rs h "say") (s0 := s) (iSeq_L (d := .lst ((rulO rs h "say").map twD)) (by simp only [runR, Nat.reduceAdd, Nat.reduceSub, Int.reduceBEq, Int.reduceEq, Int.reduceLT, Int.reduceLE, Int.reduceNeg, Int.reduceAdd, Int.reduceSub, Int.reduceMul, Int.reduceToNat, Nat.reduceLT, Nat.reduceLeDiff, reduceIte, Int.reduceNe, Int.reduceBNe, String.reduceBEq, ro]) rfl) rfl ⟨rfl, fun post h => by rw [h]; rfl⟩ ?_ ?_
  · rintro pre r post xs s' hall hx ⟨rfl, hj⟩
    obtain ⟨x, y, rfl⟩ := len2 hx
    refine ⟨rfl, _, rfl, ?_⟩
    have hc := hj _ hall
    rw [letC] at hc
    have hr := ok.2 r (List.mem_filter.mp (show r ∈ rulO rs h "say" by rw [hall]; simp)).1
    have ef := ev_fits r.w n s'
    rw [if_pos hr.w, if_pos hn] at ef
    unfold l_may_say_1
    cases hf : fitsC r.w n with
    | true =>
      rw [hf, if_pos rfl] at hc
      rw [hf] at ef
      refine ws_ifT (s1 := s') (by simp only [runR, Nat.reduceAdd, Nat.reduceSub, Int.reduceBEq, Int.reduceEq, Int.reduceLT, Int.reduceLE, Int.reduceNeg, Int.reduceAdd, Int.reduceSub, Int.reduceMul, Int.reduceToNat, Nat.reduceLT, Nat.reduceLeDiff, reduceIte, Int.reduceNe, Int.reduceBNe, String.reduceBEq, ef]) (ws_ret (we_ok (d := .bl r.l) (s1 := s') (by simp only [runR, Nat.reduceAdd, Nat.reduceSub, Int.reduceBEq, Int.reduceEq, Int.reduceLT, Int.reduceLE, Int.reduceNeg, Int.reduceAdd, Int.reduceSub, Int.reduceMul, Int.reduceToNat, Nat.reduceLT, Nat.reduceLeDiff, reduceIte, Int.reduceNe, Int.reduceBNe, String.reduceBEq]) ⟨by rw [hc], rfl⟩))
    | false =>
      rw [hf, if_neg Bool.false_ne_true] at hc
      rw [hf] at ef
      refine ws_ifF (s1 := s') (by simp only [runR, Nat.reduceAdd, Nat.reduceSub, Int.reduceBEq, Int.reduceEq, Int.reduceLT, Int.reduceLE, Int.reduceNeg, Int.reduceAdd, Int.reduceSub, Int.reduceMul, Int.reduceToNat, Nat.reduceLT, Nat.reduceLeDiff, reduceIte, Int.reduceNe, Int.reduceBNe, String.reduceBEq, ef]) (ws_next ⟨[_, _], rfl, rfl, rfl, fun post' h' => ?_⟩)
      rw [hc]
      rw [hall, List.append_assoc] at h'
      have := List.append_cancel_left h'
      rw [List.singleton_append] at this
      cases this
      rfl
  · rintro xs s' hx ⟨rfl, hj⟩
    refine ⟨rfl, ?_⟩
    have hc := hj [] (by simp)
    obtain ⟨x, y, rfl⟩ := len2 hx
    dsimp only
    refine ws_rt (by unfold u_may_say_5; simp only [runR, Nat.reduceAdd, Nat.reduceSub, Int.reduceBEq, Int.reduceEq, Int.reduceLT, Int.reduceLE, Int.reduceNeg, Int.reduceAdd, Int.reduceSub, Int.reduceMul, Int.reduceToNat, Nat.reduceLT, Nat.reduceLeDiff, reduceIte, Int.reduceNe, Int.reduceBNe, String.reduceBEq] <;> exact rfl) ?_
    exact ⟨by rw [hc]; rfl, rfl⟩
def encN : Option Lv → Dt
  | none => .non
  | some r => .str (mkS (TL.joinL [47] r))
def hearF (rs : List Ru) (h w : List Nat) : Option Lv := fnd 8 (splC 47 w) ((rulO rs h "hear").map lvR) 0 false
theorem ev_may_hear {L : List SP} {d : Dt} {rs : List Ru} {h w : List Nat} {s : Sto} (o : Own L s) (hd : Has L d (rs.map Ru.d)) (ok : RsOk rs) (hh : isHearer h = true) (hw : isWish w = true) (hs : ∀ r, hearF rs h w = some r → ∀ q ∈ r, q.length ≤ 12) : WO (m_may_hear [d, .str (mkS h), .str (mkS w)] s) (fun v s' => v = encN (hearF rs h w) ∧ Own L s') noX := by
  unfold m_may_hear b_may_hear
  refine wf_fn ?_
  have lr := ev_look_rules o hd ok
  refine ws_step (by unfold u_may_hear_1; simp only [runR, Nat.reduceAdd, Nat.reduceSub, Int.reduceBEq, Int.reduceEq, Int.reduceLT, Int.reduceLE, Int.reduceNeg, Int.reduceAdd, Int.reduceSub, Int.reduceMul, Int.reduceToNat, Nat.reduceLT, Nat.reduceLeDiff, reduceIte, Int.reduceNe, Int.reduceBNe, String.reduceBEq, lr] <;> exact rfl) ?_
  refine ws_step (by unfold u_may_hear_2; simp only [runR, Nat.reduceAdd, Nat.reduceSub, Int.reduceBEq, Int.reduceEq, Int.reduceLT, Int.reduceLE, Int.reduceNeg, Int.reduceAdd, Int.reduceSub, Int.reduceMul, Int.reduceToNat, Nat.reduceLT, Nat.reduceLeDiff, reduceIte, Int.reduceNe, Int.reduceBNe, String.reduceBEq, ev_look_hearer, hh] <;> exact rfl) ?_
  refine ws_step (by unfold u_may_hear_3; simp only [runR, Nat.reduceAdd, Nat.reduceSub, Int.reduceBEq, Int.reduceEq, Int.reduceLT, Int.reduceLE, Int.reduceNeg, Int.reduceAdd, Int.reduceSub, Int.reduceMul, Int.reduceToNat, Nat.reduceLT, Nat.reduceLeDiff, reduceIte, Int.reduceNe, Int.reduceBNe, String.reduceBEq, ev_look_wish, hw] <;> exact rfl) ?_
  have ro := ev_rules_of (h := h) (word := "hear") o hd
  refine ws_mid (fun e s' => e = [some d, some (.str (mkS h)), some (.str (mkS w)), some (.lst (((rulO rs h "hear").map lvR).map rD)), none, none, none] ∧ s' = s) ?_ ?_
  · unfold u_may_hear_4
    refine ws_set (we_lcM (f := twD) (g := fun r => rD (lvR r)) (l := rulO rs h "hear") (s0 := s) (iSeq_L (d := .lst ((rulO rs h "hear").map twD)) (by simp only [runR, Nat.reduceAdd, Nat.reduceSub, Int.reduceBEq, Int.reduceEq, Int.reduceLT, Int.reduceLE, Int.reduceNeg, Int.reduceAdd, Int.reduceSub, Int.reduceMul, Int.reduceToNat, Nat.reduceLT, Nat.reduceLeDiff, reduceIte, Int.reduceNe, Int.reduceBNe, String.reduceBEq, ro]) rfl) rfl ?_ ?_)
    · intro r _
      refine ⟨_, rfl, rfl, ?_⟩
      unfold lvR
      simp only [runR, Nat.reduceAdd, Nat.reduceSub, Int.reduceBEq, Int.reduceEq, Int.reduceLT, Int.reduceLE, Int.reduceNeg, Int.reduceAdd, Int.reduceSub, Int.reduceMul, Int.reduceToNat, Nat.reduceLT, Nat.reduceLeDiff, reduceIte, Int.reduceNe, Int.reduceBNe, String.reduceBEq, t_slash, isStr_str, dSplit_mk, dTuple]
    · refine wo_ok ⟨?_, rfl⟩
      rw [List.map_map]
      rfl
  rintro e s' ⟨rfl, rfl⟩
  have hl12 : ((rulO rs h "hear").map lvR).length ≤ 12 := by
    rw [List.length_map]
    exact Nat.le_trans (List.length_filter_le _ _) ok.1
  refine ws_mid (fun e s1 => e = [some d, some (.str (mkS h)), some (.str (mkS w)), some (.lst (((rulO rs h "hear").map lvR).map rD)), some (encO (hearF rs h w)), none, none] ∧ Own L s1) ?_ ?_
  · unfold u_may_hear_5
    refine ws_set ?_
    have mk : ∃ s1, (eMake 0 m_Search_init []) [some d, some (.str (mkS h)), some (.str (mkS w)), some (.lst (((rulO rs h "hear").map lvR).map rD)), none, none, none] s' = .ok (.obj s'.length) s1 ∧ Own (At s'.length (.ins 0 [.obj (s'.length + 1)]) :: At (s'.length + 1) (.did []) :: L) s1 := by
      have o1 := o.new (.ins 0 [])
      have o2 := o1.new (.did [])
      have o3 : Own (At s'.length (.ins 0 []) :: At (s'.length + 1) (.did []) :: L) (s' ++ [.ins 0 []] ++ [.did []]) := by
        have := o2.perm (List.Perm.swap ..)
        simpa using this
      refine ⟨_, ?_, o3.set (.ins 0 [.obj (s'.length + 1)])⟩
      have g := o3.get
      unfold m_Search_init b_Search_init eDnewN
      simp only [runR, Nat.reduceAdd, Nat.reduceSub, Int.reduceBEq, Int.reduceEq, Int.reduceLT, Int.reduceLE, Int.reduceNeg, Int.reduceAdd, Int.reduceSub, Int.reduceMul, Int.reduceToNat, Nat.reduceLT, Nat.reduceLeDiff, reduceIte, Int.reduceNe, Int.reduceBNe, String.reduceBEq, g, putI]
      simp
    obtain ⟨s1, e1, o1⟩ := mk
    refine we_meth (i := s'.length) (fs' := [.obj (s'.length + 1)]) (s1 := s1) e1 o1.get ?_
    refine wa_ok (ds := [tL (splC 47 w), .lst (((rulO rs h "hear").map lvR).map rD), tL []]) (s1 := s1) (by simp only [runR, Nat.reduceAdd, Nat.reduceSub, Int.reduceBEq, Int.reduceEq, Int.reduceLT, Int.reduceLE, Int.reduceNeg, Int.reduceAdd, Int.reduceSub, Int.reduceMul, Int.reduceToNat, Nat.reduceLT, Nat.reduceLeDiff, reduceIte, Int.reduceNe, Int.reduceBNe, String.reduceBEq, t_slash, isStr_str, dSplit_mk, dTuple]; rfl) ?_
    have g := go_ok (w0 := splC 47 w) (rs0 := (rulO rs h "hear").map lvR) (a := s'.length) (b := s'.length + 1) (R := L) hl12 8 12 0 rfl (by decide) (w := splC 47 w) (rs := (rulO rs h "hear").map lvR) (ls := []) (R' := []) (d := .lst (((rulO rs h "hear").map lvR).map rD)) rfl ⟨rfl, by
      have : ((rulO rs h "hear").map lvR).map (aftR 0) = (rulO rs h "hear").map lvR := by
        have : aftR 0 = id := rfl
        rw [this, List.map_id]
      rw [this]
      exact List.Sublist.refl _⟩ Has.lst o1 (Knw.nil _ _)
    refine wo_mono g ?_ fun _ _ h => h.elim
    rintro v s2 ⟨rfl, kvs, _, o2⟩
    refine ⟨rfl, o2.drop.drop⟩
  · rintro e s1 ⟨rfl, o1⟩
    cases hv : hearF rs h w with
    | none =>
      refine ws_rt (d := .non) (s1 := s1) (by unfold u_may_hear_6; simp only [runR, Nat.reduceAdd, Nat.reduceSub, Int.reduceBEq, Int.reduceEq, Int.reduceLT, Int.reduceLE, Int.reduceNeg, Int.reduceAdd, Int.reduceSub, Int.reduceMul, Int.reduceToNat, Nat.reduceLT, Nat.reduceLeDiff, reduceIte, Int.reduceNe, Int.reduceBNe, String.reduceBEq, encO]) ⟨rfl, o1⟩
    | some r =>
      have h8 := fnd_len hv
      have h12 := hs r hv
      have hsum : ∀ l : Lv, (∀ q ∈ l, q.length ≤ 12) → (l.map (·.length)).sum ≤ 12 * l.length := by
        intro l
        induction l with
        | nil => intro _; exact Nat.le_refl _
        | cons q l ih =>
          intro h
          have := ih fun x hx => h x (List.mem_cons_of_mem _ hx)
          have := h q List.mem_cons_self
          simp
          omega
      have hj := dJoin_lst (ps := r) (s := s1) (d := tL r) rfl (by have := hsum r h12; omega)
      refine ws_rt (d := .str (mkS (TL.joinL [47] r))) (s1 := s1) (by unfold u_may_hear_6; simp only [runR, Nat.reduceAdd, Nat.reduceSub, Int.reduceBEq, Int.reduceEq, Int.reduceLT, Int.reduceLE, Int.reduceNeg, Int.reduceAdd, Int.reduceSub, Int.reduceMul, Int.reduceToNat, Nat.reduceLT, Nat.reduceLeDiff, reduceIte, Int.reduceNe, Int.reduceBNe, String.reduceBEq, encO, t_slash, isStr_str, hj]) ⟨rfl, o1⟩
/-! ### what rules tell, plainly -/
theorem wish_WOk {w : List Nat} (h : isWish w = true) : WOk (splC 47 w) := by
  obtain ⟨h1, _, _⟩ := wish_parts h
  unfold plain at h1
  split at h1
  · rename_i hl
    refine ⟨fun p hp => ?_, fun p hp => gw_ne (h1 p hp)⟩
    rw [← List.dropLast_concat_getLast (splC_ne 47 w)] at hp
    rcases List.mem_append.mp hp with hp | hp
    · exact .inr (h1 p hp)
    · left
      rw [List.mem_singleton] at hp
      rw [hp]
      rw [List.getLast?_eq_some_getLast (splC_ne 47 w)] at hl
      exact Option.some.inj hl
  · exact ⟨fun p hp => .inr (h1 p hp), fun p hp => gw_ne (h1 p (List.dropLast_subset _ hp))⟩
theorem headD_spl (n : List Nat) : headD (splC 47 n) = TL.pre [36] n := by
  obtain ⟨q, qs, e⟩ := splC_cons n
  rw [e, pre_hd e]
  rfl
theorem fitsC_N (w n : List Nat) : fitsC w n = fitsN true (splC 47 w) (splC 47 n) := by
  unfold fitsC fitsN
  rw [headD_spl, Bool.true_and]
theorem letC_N (n : List Nat) : ∀ rs : List Ru, letC rs n = letN true (rs.map lvR) (splC 47 n)
  | [] => rfl
  | r :: rs => by rw [letC, letC_N n rs, List.map_cons, fitsC_N]; rfl
theorem gl_free {p : List Nat} (h : gl p = true) : 47 ∉ p := fun hm => by
  unfold gl at h
  simp only [Bool.and_eq_true] at h
  have := List.all_eq_true.mp h.2 47 hm
  exact absurd this (by decide)
theorem gl_len {p : List Nat} (h : gl p = true) : p.length ≤ 12 := by
  unfold gl at h
  simp only [Bool.and_eq_true, decide_eq_true_eq] at h
  exact h.1
theorem spl_nil : splC 47 [] = [[]] := rfl
theorem name_join {ls : Lv} (h0 : ls ≠ []) (h1 : ls ≠ [[]]) (h8 : ls.length ≤ 8) (hg : ∀ q ∈ ls, gl q = true) : isName (TL.joinL [47] ls) = true ∧ splC 47 (TL.joinL [47] ls) = ls := by
  have e := splC_join 47 h0 fun p hp => gl_free (hg p hp)
  refine ⟨?_, e⟩
  unfold isName
  rw [e]
  have hne : (TL.joinL [47] ls == []) = false := by
    rw [beq_eq_false_iff_ne]
    intro z
    rw [z, spl_nil] at e
    exact h1 e.symm
  rw [hne]
  simp only [Bool.not_false, Bool.true_and, Bool.and_eq_true, decide_eq_true_eq]
  exact ⟨h8, List.all_eq_true.mpr hg⟩
theorem ROk_of {rs : List Ru} (ok : RsOk rs) (h : List Nat) (word : String) : ROk ((rulO rs h word).map lvR) ∧ ((rulO rs h word).map lvR).length < 26 := by
  refine ⟨fun r hr => ?_, ?_⟩
  · obtain ⟨x, hx, e⟩ := List.mem_map.mp hr
    rw [← e]
    exact wish_WOk (ok.2 x (List.mem_filter.mp hx).1).w
  · rw [List.length_map]
    have := List.length_filter_le (forR h word) rs
    have := ok.1
    unfold rulO
    omega
theorem name_parts {n : List Nat} (h : isName n = true) : splC 47 n ≠ [[]] ∧ (splC 47 n).length ≤ 8 ∧ ∀ q ∈ splC 47 n, gl q = true := by
  refine ⟨name_ne h, ?_⟩
  unfold isName at h
  simp only [Bool.and_eq_true, decide_eq_true_eq] at h
  exact ⟨h.1.2, List.all_eq_true.mp h.2⟩
theorem hear_some {rs : List Ru} {h w : List Nat} {r : Lv} (ok : RsOk rs) (hw : isWish w = true) (e : hearF rs h w = some r) : isName (TL.joinL [47] r) = true ∧ fitsC w (TL.joinL [47] r) = true ∧ letC (rulO rs h "hear") (TL.joinL [47] r) = false ∧ ∀ q ∈ r, q.length ≤ 12 := by
  obtain ⟨k1, k2⟩ := ROk_of ok h "hear"
  obtain ⟨h1, h2, h3, h4, h5⟩ := fnd_sound _ _ _ _ _ _ e (wish_WOk hw) k1 k2
  obtain ⟨a1, a2⟩ := h1.1 rfl
  obtain ⟨b1, b2⟩ := name_join a1 a2 h2 h3
  refine ⟨b1, ?_, ?_, fun q hq => gl_len (h3 q hq)⟩
  · rw [fitsC_N, b2]; exact h4
  · rw [letC_N, b2]; exact h5
theorem hear_none {rs : List Ru} {h w n : List Nat} (ok : RsOk rs) (hw : isWish w = true) (e : hearF rs h w = none) (hn : isName n = true) (hf : fitsC w n = true) : letC (rulO rs h "hear") n = true := by
  obtain ⟨k1, k2⟩ := ROk_of ok h "hear"
  obtain ⟨a1, a2, a3⟩ := name_parts hn
  rw [letC_N]
  rw [fitsC_N] at hf
  exact fnd_complete _ _ _ _ _ e (wish_WOk hw) k1 k2 (splC 47 n) ⟨fun _ => ⟨splC_ne 47 n, a1⟩, fun z => by cases z⟩ a2 hf
theorem hear_iff {rs : List Ru} {h w : List Nat} (ok : RsOk rs) (hw : isWish w = true) : hearF rs h w = none ↔ ∀ n, isName n = true → fitsC w n = true → letC (rulO rs h "hear") n = true := by
  refine ⟨fun e n hn hf => hear_none ok hw e hn hf, fun k => ?_⟩
  cases e : hearF rs h w with
  | none => rfl
  | some r =>
    obtain ⟨h1, h2, h3, _⟩ := hear_some ok hw e
    rw [k _ h1 h2] at h3
    cases h3
theorem ev_may_hear' {L : List SP} {d : Dt} {rs : List Ru} {h w : List Nat} {s : Sto} (o : Own L s) (hd : Has L d (rs.map Ru.d)) (ok : RsOk rs) (hh : isHearer h = true) (hw : isWish w = true) : WO (m_may_hear [d, .str (mkS h), .str (mkS w)] s) (fun v s' => v = encN (hearF rs h w) ∧ Own L s') noX :=
  ev_may_hear o hd ok hh hw fun r e => (hear_some ok hw e).2.2.2
def Same (h : List Nat) (a b : List Ru) : Prop := ∀ (word : String) (n : List Nat), isName n = true → letC (rulO a h word) n = letC (rulO b h word) n
theorem Same.hear {h w : List Nat} {a b : List Ru} (k : Same h a b) (ha : RsOk a) (hb : RsOk b) (hw : isWish w = true) : (hearF a h w).isNone = (hearF b h w).isNone := by
  rw [Bool.eq_iff_iff, Option.isNone_iff_eq_none, Option.isNone_iff_eq_none, hear_iff ha hw, hear_iff hb hw]
  constructor
  · intro z n h1 h2
    rw [← k _ n h1]; exact z n h1 h2
  · intro z n h1 h2
    rw [k _ n h1]; exact z n h1 h2
theorem isN_enc (o : Option Lv) (s : Sto) : dIsN (encN o) s = .ok (.bl o.isNone) s := by cases o <;> rfl
end Tx
namespace Tx
open PySem L2 Pd
/-! ### a law's rules and names -/
theorem t_b : Str.ofString "b" = mkS [98] := by decide +kernel
theorem t_c : Str.ofString "c" = mkS [99] := by decide +kernel
theorem t_ds : Str.ofString "$s" = mkS [36, 115] := by decide +kernel
theorem t_ab : Str.ofString "a/b" = mkS [97, 47, 98] := by decide +kernel
theorem t_h1 : Str.ofString "h1" = mkS [104, 49] := by decide +kernel
theorem t_h2 : Str.ofString "h2" = mkS [104, 50] := by decide +kernel
theorem t_h3 : Str.ofString "h3" = mkS [104, 51] := by decide +kernel
theorem dAdd_mkS {a b : List Nat} {s : Sto} (h : a.length + b.length ≤ 1000000) : dAdd nwF (.str (mkS a)) (.str (mkS b)) s = .ok (.str (mkS (a ++ b))) s := by
  have e : mkS a ++ mkS b = mkS (a ++ b) := by
    have h1 := mkS_eq (mkS a ++ mkS b)
    rw [h1]
    congr 1
    show (a.toArray ++ b.toArray).toList = a ++ b
    simp
  have h2 : (mkS a).length + (mkS b).length ≤ 1000000 := by rw [mkS_len, mkS_len]; exact h
  simp only [dAdd, if_pos h2, e]
def menu5 : Lv := [[97], [98], [99], [], [36, 115]]
def sepN (k : Nat) : List Nat := if 0 < k then [47] else []
def nmStep (k : Nat) (rows : Lv) : Lv := rows.flatMap fun row => menu5.map fun l => row ++ sepN k ++ l
def rowsN : Nat → Lv
  | 0 => [[]]
  | k + 1 => nmStep k (rowsN k)
def fndN : Nat → Lv
  | 0 => []
  | k + 1 => fndN k ++ rowsN (k + 1)
def namesL : Lv := (fndN 4).filter fun n => !(n == [])
theorem names_ok : namesL.all isName = true := by decide +kernel
theorem names_ne : namesL ≠ [] := by decide +kernel
theorem names_len : namesL.length ≤ 800 := by decide +kernel
theorem rows_len : ∀ k, k < 4 → (rowsN k).all (fun r => decide (r.length ≤ 20)) = true ∧ (rowsN k).length ≤ 1000 ∧ (rowsN (k + 1)).length ≤ 1000 ∧ (fndN k).length ≤ 1000 := by
  intro k hk
  have h : ∀ k : Fin 4, (rowsN k.1).all (fun r => decide (r.length ≤ 20)) = true ∧ (rowsN k.1).length ≤ 1000 ∧ (rowsN (k.1 + 1)).length ≤ 1000 ∧ (fndN k.1).length ≤ 1000 := by decide +kernel
  exact h ⟨k, hk⟩
theorem nmStep_snoc (k : Nat) (a : Lv) (r : List Nat) : nmStep k (a ++ [r]) = nmStep k a ++ menu5.map fun l => r ++ sepN k ++ l := by
  unfold nmStep
  rw [List.flatMap_append, List.flatMap_singleton]
theorem nmStep_len (k : Nat) : ∀ a : Lv, (nmStep k a).length = 5 * a.length
  | [] => rfl
  | r :: a => by
    have := nmStep_len k a
    unfold nmStep at this ⊢
    rw [List.flatMap_cons, List.length_append, this, List.length_map, List.length_cons]
    show 5 + _ = _
    omega
theorem lvs_append (a b : Lv) : lvs a ++ lvs b = lvs (a ++ b) := by unfold lvs; rw [List.map_append]
theorem dAdd_lvs {a b : Lv} {s : Sto} (h : a.length + b.length ≤ 1000000) : dAdd nwF (.lst (lvs a)) (.lst (lvs b)) s = .ok (.lst (lvs (a ++ b))) s := by
  rw [dAdd_any (l := lvs a) (m := lvs b) rfl rfl (by rw [lvs_len, lvs_len]; exact h), lvs_append]
  rfl
theorem ev_law_names (s : Sto) : m_law_names [] s = .ok (.lst (lvs namesL)) s := by
  suffices k : WO (m_law_names [] s) (fun r s' => r = .lst (lvs namesL) ∧ s' = s) noX by
    obtain ⟨d, s', e, rfl, rfl⟩ := wo_iff k
    exact e
  unfold m_law_names b_law_names
  refine wf_fn ?_
  refine ws_step (by unfold u_law_names_1; simp only [runR, Nat.reduceAdd, Nat.reduceSub, Int.reduceBEq, Int.reduceEq, Int.reduceLT, Int.reduceLE, Int.reduceNeg, Int.reduceAdd, Int.reduceSub, Int.reduceMul, Int.reduceToNat, Nat.reduceLT, Nat.reduceLeDiff, reduceIte, Int.reduceNe, Int.reduceBNe, String.reduceBEq] <;> exact rfl) ?_
  refine ws_step (by unfold u_law_names_2; simp only [runR, Nat.reduceAdd, Nat.reduceSub, Int.reduceBEq, Int.reduceEq, Int.reduceLT, Int.reduceLE, Int.reduceNeg, Int.reduceAdd, Int.reduceSub, Int.reduceMul, Int.reduceToNat, Nat.reduceLT, Nat.reduceLeDiff, reduceIte, Int.reduceNe, Int.reduceBNe, String.reduceBEq, t_nil] <;> exact rfl) ?_
  refine ws_seq ?_
  unfold u_law_names_3
  refine ws_range [0, 1, 2, 3, 4] (fun k xs s' => s' = s ∧ xs[0]? = some (some (.lst (lvs (fndN k)))) ∧ xs[1]? = some (some (.lst (lvs (rowsN k))))) (n := 4) (s0 := s) (by simp only [runR, Nat.reduceAdd, Nat.reduceSub, Int.reduceBEq, Int.reduceEq, Int.reduceLT, Int.reduceLE, Int.reduceNeg, Int.reduceAdd, Int.reduceSub, Int.reduceMul, Int.reduceToNat, Nat.reduceLT, Nat.reduceLeDiff, reduceIte, Int.reduceNe, Int.reduceBNe, String.reduceBEq] <;> exact rfl) (by decide) rfl ⟨rfl, rfl, rfl⟩ ?_ ?_
  · rintro k xs s' hk hx ⟨rfl, h0, h1⟩
    obtain ⟨x0, x1, x2, x3, x4, rfl⟩ := len5 hx
    simp only [List.getElem?_cons_zero, List.getElem?_cons_succ, Option.some.injEq] at h0 h1
    subst h0 h1
    obtain ⟨r1, r2, r3, r4⟩ := rows_len k hk
    refine ⟨_, rfl, ?_⟩
    unfold l_law_names_2
    refine ws_step (by unfold w_law_names_1; simp only [runR, Nat.reduceAdd, Nat.reduceSub, Int.reduceBEq, Int.reduceEq, Int.reduceLT, Int.reduceLE, Int.reduceNeg, Int.reduceAdd, Int.reduceSub, Int.reduceMul, Int.reduceToNat, Nat.reduceLT, Nat.reduceLeDiff, reduceIte, Int.reduceNe, Int.reduceBNe, String.reduceBEq] <;> exact rfl) ?_
    refine ws_seq ?_
    unfold w_law_names_2
    refine ws_for (f := fun l : List Nat => Dt.str (mkS l)) [3, 4] (fun pre ys s1 => s1 = s' ∧ ys[0]? = some (some (.lst (lvs (nmStep k pre))))) (l := rowsN k) (s0 := s') (iSeq_L (d := .lst (lvs (rowsN k))) (by simp only [runR, Nat.reduceAdd, Nat.reduceSub, Int.reduceBEq, Int.reduceEq, Int.reduceLT, Int.reduceLE, Int.reduceNeg, Int.reduceAdd, Int.reduceSub, Int.reduceMul, Int.reduceToNat, Nat.reduceLT, Nat.reduceLeDiff, reduceIte, Int.reduceNe, Int.reduceBNe, String.reduceBEq]) rfl) rfl ⟨rfl, rfl⟩ ?_ ?_
    · rintro pre r post ys s1 hall hy ⟨rfl, h3⟩
      obtain ⟨y0, y1, rfl⟩ := len2 hy
      simp only [List.getElem?_cons_zero, Option.some.injEq] at h3
      subst h3
      refine ⟨rfl, _, rfl, ?_⟩
      unfold l_law_names_1
      have hr20 : r.length ≤ 20 := by
        have := List.all_eq_true.mp r1 r (by rw [hall]; simp)
        simpa using this
      refine ws_set (we_op (we_ok (d := .lst (lvs (nmStep k pre))) (s1 := s1) (by simp only [runR, Nat.reduceAdd, Nat.reduceSub, Int.reduceBEq, Int.reduceEq, Int.reduceLT, Int.reduceLE, Int.reduceNeg, Int.reduceAdd, Int.reduceSub, Int.reduceMul, Int.reduceToNat, Nat.reduceLT, Nat.reduceLeDiff, reduceIte, Int.reduceNe, Int.reduceBNe, String.reduceBEq]) ?_))
      refine we_lcM (f := fun l : List Nat => Dt.str (mkS l)) (g := fun l => Dt.str (mkS (r ++ sepN k ++ l))) (l := menu5) (s0 := s1) (iSeq_L (d := .lst (lvs menu5)) (by simp only [runR, Nat.reduceAdd, Nat.reduceSub, Int.reduceBEq, Int.reduceEq, Int.reduceLT, Int.reduceLE, Int.reduceNeg, Int.reduceAdd, Int.reduceSub, Int.reduceMul, Int.reduceToNat, Nat.reduceLT, Nat.reduceLeDiff, reduceIte, Int.reduceNe, Int.reduceBNe, String.reduceBEq, t_a, t_b, t_c, t_nil, t_ds, menu5]) rfl) rfl ?_ ?_
      · intro l hl
        have hl2 : l.length ≤ 2 := by
          have : ∀ l ∈ menu5, l.length ≤ 2 := by decide
          exact this l hl
        refine ⟨_, rfl, rfl, ?_⟩
        have a1 := dAdd_mkS (a := r) (b := [47]) (s := s1) (by simp; omega)
        have a2 := dAdd_mkS (a := r ++ [47]) (b := l) (s := s1) (by simp; omega)
        have a3 := dAdd_mkS (a := r) (b := []) (s := s1) (by simp; omega)
        have a4 := dAdd_mkS (a := r ++ []) (b := l) (s := s1) (by simp; omega)
        unfold sepN
        by_cases hk0 : 0 < k
        · have hk1 : (0 : Int) < (k : Int) := by omega
          simp only [runR, Nat.reduceAdd, Nat.reduceSub, Int.reduceBEq, Int.reduceEq, Int.reduceLT, Int.reduceLE, Int.reduceNeg, Int.reduceAdd, Int.reduceSub, Int.reduceMul, Int.reduceToNat, Nat.reduceLT, Nat.reduceLeDiff, reduceIte, Int.reduceNe, Int.reduceBNe, String.reduceBEq, dGt, hk1, hk0, t_slash, a1, a2]
        · have hk1 : ¬ (0 : Int) < (k : Int) := by omega
          simp only [runR, Nat.reduceAdd, Nat.reduceSub, Int.reduceBEq, Int.reduceEq, Int.reduceLT, Int.reduceLE, Int.reduceNeg, Int.reduceAdd, Int.reduceSub, Int.reduceMul, Int.reduceToNat, Nat.reduceLT, Nat.reduceLeDiff, reduceIte, Int.reduceNe, Int.reduceBNe, String.reduceBEq, dGt, hk1, hk0, t_nil, a3, a4]
      · have hp5 : 5 * pre.length ≤ 5 * 1000 := by
          have := congrArg List.length hall
          simp at this
          omega
        have := dAdd_lvs (a := nmStep k pre) (b := menu5.map fun l => r ++ sepN k ++ l) (s := s1) (by rw [nmStep_len, List.length_map]; show _ + 5 ≤ _; omega)
        refine wo_ok ?_
        refine wo_of (d := .lst (lvs (nmStep k (pre ++ [r])))) (s := s1) ?_ ⟨[_, _], rfl, rfl, rfl, rfl⟩
        rw [nmStep_snoc, ← this]
        unfold lvs
        rw [List.map_map]
        rfl
    · rintro ys s1 hy ⟨rfl, h3⟩
      obtain ⟨y0, y1, rfl⟩ := len2 hy
      simp only [List.getElem?_cons_zero, Option.some.injEq] at h3
      subst h3
      refine ⟨rfl, ?_⟩
      dsimp only
      have := dAdd_lvs (a := fndN k) (b := rowsN (k + 1)) (s := s1) (by omega)
      have e : nmStep k (rowsN k) = rowsN (k + 1) := rfl
      rw [e]
      refine ws_step (by unfold w_law_names_3; simp only [runR, Nat.reduceAdd, Nat.reduceSub, Int.reduceBEq, Int.reduceEq, Int.reduceLT, Int.reduceLE, Int.reduceNeg, Int.reduceAdd, Int.reduceSub, Int.reduceMul, Int.reduceToNat, Nat.reduceLT, Nat.reduceLeDiff, reduceIte, Int.reduceNe, Int.reduceBNe, String.reduceBEq] <;> exact rfl) ?_
      refine ws_nx (by unfold w_law_names_4; simp only [runR, Nat.reduceAdd, Nat.reduceSub, Int.reduceBEq, Int.reduceEq, Int.reduceLT, Int.reduceLE, Int.reduceNeg, Int.reduceAdd, Int.reduceSub, Int.reduceMul, Int.reduceToNat, Nat.reduceLT, Nat.reduceLeDiff, reduceIte, Int.reduceNe, Int.reduceBNe, String.reduceBEq, this] <;> exact rfl) ⟨[_, _, _, _, _], rfl, rfl, rfl, rfl, rfl⟩
  · rintro xs s' hx ⟨rfl, h0, h1⟩
    obtain ⟨x0, x1, x2, x3, x4, rfl⟩ := len5 hx
    simp only [List.getElem?_cons_zero, List.getElem?_cons_succ, Option.some.injEq] at h0 h1
    subst h0 h1
    dsimp only
    unfold u_law_names_4
    refine ws_ret (we_lcF (f := fun l : List Nat => Dt.str (mkS l)) (p := fun n => !(n == [])) (g := fun l => Dt.str (mkS l)) (l := fndN 4) (s0 := s') (iSeq_L (d := .lst (lvs (fndN 4))) (by simp only [runR, Nat.reduceAdd, Nat.reduceSub, Int.reduceBEq, Int.reduceEq, Int.reduceLT, Int.reduceLE, Int.reduceNeg, Int.reduceAdd, Int.reduceSub, Int.reduceMul, Int.reduceToNat, Nat.reduceLT, Nat.reduceLeDiff, reduceIte, Int.reduceNe, Int.reduceBNe, String.reduceBEq]) rfl) rfl ?_ (wo_ok ⟨rfl, rfl⟩))
    intro l _
    refine ⟨_, rfl, ?_, fun _ => ?_⟩
    · simp only [runR, Nat.reduceAdd, Nat.reduceSub, Int.reduceBEq, Int.reduceEq, Int.reduceLT, Int.reduceLE, Int.reduceNeg, Int.reduceAdd, Int.reduceSub, Int.reduceMul, Int.reduceToNat, Nat.reduceLT, Nat.reduceLeDiff, reduceIte, Int.reduceNe, Int.reduceBNe, String.reduceBEq, t_nil, dNe_mk]
    · simp only [runR, Nat.reduceAdd, Nat.reduceSub, Int.reduceBEq, Int.reduceEq, Int.reduceLT, Int.reduceLE, Int.reduceNeg, Int.reduceAdd, Int.reduceSub, Int.reduceMul, Int.reduceToNat, Nat.reduceLT, Nat.reduceLeDiff, reduceIte, Int.reduceNe, Int.reduceBNe, String.reduceBEq]
def menu6 : Lv := [[97], [98], [43], [43], [], [36, 115]]
theorem menu6_ok : ∀ p ∈ menu6, gw p = true ∧ 47 ∉ p ∧ p.length ≤ 2 ∧ p ≠ [35] := by decide
theorem wish_join {ls ps : Lv} (hp : ∀ p ∈ ps, p ∈ menu6) (h : ls = ps ∨ ls = ps ++ [[35]]) (h0 : ls ≠ []) (h1 : ls ≠ [[]]) (h8 : ls.length ≤ 8) : isWish (TL.joinL [47] ls) = true := by
  have hf : ∀ p ∈ ls, 47 ∉ p := by
    intro p hm
    rcases h with e | e
    · rw [e] at hm; exact (menu6_ok p (hp p hm)).2.1
    · rw [e] at hm
      rcases List.mem_append.mp hm with hm | hm
      · exact (menu6_ok p (hp p hm)).2.1
      · rw [List.mem_singleton] at hm; rw [hm]; decide
  have e := splC_join 47 h0 hf
  unfold isWish
  rw [e]
  have hne : (TL.joinL [47] ls == []) = false := by
    rw [beq_eq_false_iff_ne]
    intro z
    rw [z, spl_nil] at e
    exact h1 e.symm
  rw [hne]
  simp only [Bool.not_false, Bool.true_and, Bool.and_eq_true, decide_eq_true_eq]
  refine ⟨h8, List.all_eq_true.mpr fun p hm => ?_⟩
  have : p ∈ ps := by
    unfold plain at hm
    rcases h with z | z
    · rw [z] at hm
      split at hm
      · exact List.dropLast_subset _ hm
      · exact hm
    · rw [z] at hm
      rw [if_pos (by simp), List.dropLast_concat] at hm
      exact hm
  exact (menu6_ok p (hp p this)).1
theorem pick_lv {l : Lv} {x : Dt} (h : x ∈ lvs l) : ∃ p ∈ l, x = .str (mkS p) := by
  obtain ⟨p, h1, h2⟩ := List.mem_map.mp h
  exact ⟨p, h1, h2.symm⟩
theorem ev_law_rules (ns : List Int) {t N most : Nat} {R : List SP} {s : Sto} (o : Own (Tw t N :: R) s) (hN : N < 800000) (hm : most ≤ 10) : ∃ (rs : List Ru) (j : Nat) (s' : Sto), rs.length ≤ most ∧ (∀ r ∈ rs, r.Ok) ∧ m_law_rules [sc ns, .obj t, .int most] s = .ok (.obj j) s' ∧ Own (Tw t (N + 1 + 20 * most) :: At j (.lst (rs.map Ru.d)) :: R) s' := by
  suffices k : WO (m_law_rules [sc ns, .obj t, .int most] s) (fun v s' => ∃ (rs : List Ru) (j : Nat), rs.length ≤ most ∧ (∀ r ∈ rs, r.Ok) ∧ v = .obj j ∧ Own (Tw t (N + 1 + 20 * most) :: At j (.lst (rs.map Ru.d)) :: R) s') noX by
    obtain ⟨d, s', e, rs, j, h1, h2, rfl, h3⟩ := wo_iff k
    exact ⟨rs, j, s', h1, h2, e, h3⟩
  unfold m_law_rules b_law_rules
  refine wf_fn ?_
  refine ws_step (by unfold u_law_rules_1; simp only [runR, Nat.reduceAdd, Nat.reduceSub, Int.reduceBEq, Int.reduceEq, Int.reduceLT, Int.reduceLE, Int.reduceNeg, Int.reduceAdd, Int.reduceSub, Int.reduceMul, Int.reduceToNat, Nat.reduceLT, Nat.reduceLeDiff, reduceIte, Int.reduceNe, Int.reduceBNe, String.reduceBEq] <;> exact rfl) ?_
  refine ws_new o fun s0 o0 => ?_
  have o0 : Own (Tw t N :: At s.length (.lst []) :: R) s0 := (Own.pm o0 (by repeat first | exact Pm.rfl | (apply Pm.cons; repeat first | exact Tk.hd | apply Tk.tl) | apply Pm.skip))
  obtain ⟨v, hv, s1, h1, o1⟩ := ev_draw ns (many := (most : Int) + 1) o0 (by omega) (by omega)
  refine ws_seq ?_
  unfold u_law_rules_2
  refine ws_range [4, 5, 6, 7, 8, 9, 10] (fun k xs s' => ∃ rs : List Ru, rs.length = k ∧ (∀ r ∈ rs, r.Ok) ∧ Own (Tw t (N + 1 + 20 * k) :: At s.length (.lst (rs.map Ru.d)) :: R) s') (n := v) (s0 := s1) (by simp only [runR, Nat.reduceAdd, Nat.reduceSub, Int.reduceBEq, Int.reduceEq, Int.reduceLT, Int.reduceLE, Int.reduceNeg, Int.reduceAdd, Int.reduceSub, Int.reduceMul, Int.reduceToNat, Nat.reduceLT, Nat.reduceLeDiff, reduceIte, Int.reduceNe, Int.reduceBNe, String.reduceBEq, h1] <;> exact rfl) (by omega) rfl ⟨[], rfl, (fun _ h => nomatch h), o1⟩ ?_ ?_
  · rintro k xs s2 hk hx ⟨rs, hl, hr, o2⟩
    obtain ⟨x4, x5, x6, x7, x8, x9, x10, rfl⟩ : ∃ a b c d e f g, xs = [a, b, c, d, e, f, g] := by
      match xs, hx with
      | [a, b, c, d, e, f, g], _ => exact ⟨a, b, c, d, e, f, g, rfl⟩
    refine ⟨_, rfl, ?_⟩
    unfold l_law_rules_1
    obtain ⟨v1, hv1, s3, h3, o3⟩ := ev_draw ns (many := 3) o2 (by omega) (by decide)
    refine ws_step (by unfold w_law_rules_1; simp only [runR, Nat.reduceAdd, Nat.reduceSub, Int.reduceBEq, Int.reduceEq, Int.reduceLT, Int.reduceLE, Int.reduceNeg, Int.reduceAdd, Int.reduceSub, Int.reduceMul, Int.reduceToNat, Nat.reduceLT, Nat.reduceLeDiff, reduceIte, Int.reduceNe, Int.reduceBNe, String.reduceBEq, h3] <;> exact rfl) ?_
    have em : (1 : Int) + (v1 : Int) = ((1 + v1 : Nat) : Int) := by omega
    rw [em]
    refine ws_mid (fun e s' => ∃ bs : Lv, ∃ z, bs.length = 1 + v1 ∧ (∀ b ∈ bs, b ∈ menu6) ∧ e = [some (sc ns), some (.obj t), some (.int most), some (.obj s.length), some (.int k), some (.int ((1 + v1 : Nat) : Int)), some (.lst (lvs bs)), x7, x8, x9, z] ∧ Own (Tw t (N + 1 + 20 * k + 4) :: At s.length (.lst (rs.map Ru.d)) :: R) s') ?_ ?_
    · unfold w_law_rules_2
      refine ws_set ?_
      refine we_lcW (f := fun (i : Nat) => Dt.int (i : Int)) (g := fun b : List Nat => Dt.str (mkS b)) (fun pre bs s' => bs.length = pre.length ∧ (∀ b ∈ bs, b ∈ menu6) ∧ Own (Tw t (N + 1 + 20 * k + 1 + bs.length) :: At s.length (.lst (rs.map Ru.d)) :: R) s') (l := List.range (1 + v1)) (s0 := s3) (ok := fun _ => True) ?_ (fun _ _ _ _ => trivial) ⟨rfl, (fun _ h => nomatch h), o3⟩ ?_ ?_
      · have hr : (((1 + v1 : Nat) : Int) ≤ 16777216 ∧ -(2 ^ 62) ≤ ((1 + v1 : Nat) : Int)) := by omega
        simp only [runR, Nat.reduceAdd, Nat.reduceSub, Int.reduceBEq, Int.reduceEq, Int.reduceLT, Int.reduceLE, Int.reduceNeg, Int.reduceAdd, Int.reduceSub, Int.reduceMul, Int.reduceToNat, Nat.reduceLT, Nat.reduceLeDiff, reduceIte, Int.reduceNe, Int.reduceBNe, String.reduceBEq, ev_iRange, hr, Int.toNat_natCast]
      · rintro pre i post bs s' hall ⟨hb1, hb2, ob⟩
        refine ⟨_, rfl, ?_⟩
        have hpl : pre.length < 1 + v1 := by
          have := congrArg List.length hall
          simp at this
          omega
        obtain ⟨x, hx, s5, h5, o5⟩ := ev_pick ns (l := lvs menu6) ob (by omega) (by decide)
        obtain ⟨p, hp, rfl⟩ := pick_lv hx
        refine we_ok (d := .str (mkS p)) (s1 := s5) (by unfold menu6 at h5; simp only [runR, Nat.reduceAdd, Nat.reduceSub, Int.reduceBEq, Int.reduceEq, Int.reduceLT, Int.reduceLE, Int.reduceNeg, Int.reduceAdd, Int.reduceSub, Int.reduceMul, Int.reduceToNat, Nat.reduceLT, Nat.reduceLeDiff, reduceIte, Int.reduceNe, Int.reduceBNe, String.reduceBEq, t_a, t_b, t_plus, t_nil, t_ds, h5]; simpa using h5) ⟨p, rfl, by simp [hb1], fun b hb => ?_, ?_⟩
        · rcases List.mem_append.mp hb with hb | hb
          · exact hb2 b hb
          · rw [List.mem_singleton] at hb; rw [hb]; exact hp
        · rw [List.length_append]
          exact o5
      · rintro bs s' ⟨hb1, hb2, ob⟩
        rw [List.length_range] at hb1
        exact wo_ok ⟨bs, _, hb1, hb2, rfl, ob.more (by omega)⟩
    rintro e s4 ⟨bs, z, hb1, hb2, rfl, o4⟩
    refine ws_mid (fun e s' => ∃ ls ps : Lv, (∀ p ∈ ps, p ∈ menu6) ∧ (ls = ps ∨ ls = ps ++ [[35]]) ∧ ls ≠ [] ∧ ls.length ≤ 4 ∧ e = [some (sc ns), some (.obj t), some (.int most), some (.obj s.length), some (.int k), some (.int ((1 + v1 : Nat) : Int)), some (.lst (lvs ls)), x7, x8, x9, z] ∧ Own (Tw t (N + 1 + 20 * k + 6) :: At s.length (.lst (rs.map Ru.d)) :: R) s') ?_ ?_
    · obtain ⟨v2, hv2, s5, h5, o5⟩ := ev_draw ns (many := 3) o4 (by omega) (by decide)
      unfold w_law_rules_3
      by_cases hz : v2 = 0
      · subst hz
        obtain ⟨v3, hv3, s6, h6, o6⟩ := ev_draw ns (many := (bs.length : Int)) o5 (by omega) (by omega)
        have e1 : dAdd nwF (.lst (lvs (bs.take v3))) (.lst [.str (mkS [35])]) s6 = .ok (.lst (lvs (bs.take v3 ++ [[35]]))) s6 := dAdd_lvs (a := bs.take v3) (b := [[35]]) (by rw [List.length_take]; simp; omega)
        have e2 : cutD (lvs bs) none (some (v3 : Int)) = lvs (bs.take v3) := by rw [cut_take]; unfold lvs; rw [List.map_take]
        refine ws_nx (e := [some (sc ns), some (.obj t), some (.int most), some (.obj s.length), some (.int k), some (.int ((1 + v1 : Nat) : Int)), some (.lst (lvs (bs.take v3 ++ [[35]]))), x7, x8, x9, z]) (s1 := s6) ?_ ⟨bs.take v3 ++ [[35]], bs.take v3, fun p hp => hb2 p (List.mem_of_mem_take hp), .inr rfl, by simp, by rw [List.length_append, List.length_take]; simp; omega, rfl, o6⟩
        simp only [runR, Nat.reduceAdd, Nat.reduceSub, Int.reduceBEq, Int.reduceEq, Int.reduceLT, Int.reduceLE, Int.reduceNeg, Int.reduceAdd, Int.reduceSub, Int.reduceMul, Int.reduceToNat, Nat.reduceLT, Nat.reduceLeDiff, reduceIte, Int.reduceNe, Int.reduceBNe, String.reduceBEq, h5, Int.ofNat_zero, lvs_len, h6, ev_sl, evp_none, evp_some, dSl_lst, e2, t_hash, e1]
      · have hz' : ((v2 : Int) == 0) = false := by rw [beq_eq_false_iff_ne]; omega
        refine ws_nx (e := [some (sc ns), some (.obj t), some (.int most), some (.obj s.length), some (.int k), some (.int ((1 + v1 : Nat) : Int)), some (.lst (lvs bs)), x7, x8, x9, z]) (s1 := s5) ?_ ⟨bs, bs, hb2, .inl rfl, fun e => by rw [e] at hb1; simp at hb1; omega, by omega, rfl, o5.more (by omega)⟩
        simp only [runR, Nat.reduceAdd, Nat.reduceSub, Int.reduceBEq, Int.reduceEq, Int.reduceLT, Int.reduceLE, Int.reduceNeg, Int.reduceAdd, Int.reduceSub, Int.reduceMul, Int.reduceToNat, Nat.reduceLT, Nat.reduceLeDiff, reduceIte, Int.reduceNe, Int.reduceBNe, String.reduceBEq, h5, hz']
    rintro e s5 ⟨ls, ps, hp, hls, hne, hl4, rfl, o5⟩
    have hsum : (ls.map (·.length)).sum + ls.length ≤ 1000000 := by
      have : ∀ l : Lv, (∀ q ∈ l, q.length ≤ 2) → (l.map (·.length)).sum ≤ 2 * l.length := by
        intro l
        induction l with
        | nil => intro _; exact Nat.le_refl _
        | cons q l ih =>
          intro h
          have := ih fun x hx => h x (List.mem_cons_of_mem _ hx)
          have := h q List.mem_cons_self
          simp
          omega
      have := this ls fun q hq => by
        rcases hls with e | e
        · rw [e] at hq; exact (menu6_ok q (hp q hq)).2.2.1
        · rw [e] at hq
          rcases List.mem_append.mp hq with hq | hq
          · exact (menu6_ok q (hp q hq)).2.2.1
          · rw [List.mem_singleton] at hq; rw [hq]; decide
      omega
    have wex : ∃ w, isWish w = true ∧ w_law_rules_4 [some (sc ns), some (.obj t), some (.int most), some (.obj s.length), some (.int k), some (.int ((1 + v1 : Nat) : Int)), some (.lst (lvs ls)), x7, x8, x9, z] s5 = .fl (.nx [some (sc ns), some (.obj t), some (.int most), some (.obj s.length), some (.int k), some (.int ((1 + v1 : Nat) : Int)), some (.lst (lvs ls)), some (.str (mkS w)), x8, x9, z]) s5 := by
      unfold w_law_rules_4
      have e0 : Dt.lst [.str (mkS [])] = .lst (lvs [[]]) := rfl
      have e1 : dNe (.lst (lvs ls)) (.lst [.str (mkS [])]) s5 = .ok (.bl (!(ls == [[]]))) s5 := by rw [e0, dNe_lvs]
      by_cases h1 : ls = [[]]
      · refine ⟨[97, 47, 98], by decide, ?_⟩
        have h1' : (ls == [[]]) = true := by rw [h1]; rfl
        simp only [runR, Nat.reduceAdd, Nat.reduceSub, Int.reduceBEq, Int.reduceEq, Int.reduceLT, Int.reduceLE, Int.reduceNeg, Int.reduceAdd, Int.reduceSub, Int.reduceMul, Int.reduceToNat, Nat.reduceLT, Nat.reduceLeDiff, reduceIte, Int.reduceNe, Int.reduceBNe, String.reduceBEq, t_nil, e1, h1', t_ab]
      · have h1' : (ls == [[]]) = false := by rw [beq_eq_false_iff_ne]; exact h1
        have ej := dJoin_lst (ps := ls) (s := s5) (d := .lst (lvs ls)) rfl hsum
        refine ⟨TL.joinL [47] ls, wish_join hp hls hne h1 (by omega), ?_⟩
        simp only [runR, Nat.reduceAdd, Nat.reduceSub, Int.reduceBEq, Int.reduceEq, Int.reduceLT, Int.reduceLE, Int.reduceNeg, Int.reduceAdd, Int.reduceSub, Int.reduceMul, Int.reduceToNat, Nat.reduceLT, Nat.reduceLeDiff, reduceIte, Int.reduceNe, Int.reduceBNe, String.reduceBEq, t_nil, e1, h1', t_slash, isStr_str, ej]
    obtain ⟨w, hw, e4⟩ := wex
    refine ws_step e4 ?_
    obtain ⟨x, hx, s6, h6, o6⟩ := ev_pick ns (l := [.str (Str.ofString "say"), .str (Str.ofString "hear"), .str (Str.ofString "both"), .str (Str.ofString "both")]) o5 (by omega) (by simp)
    obtain ⟨wd, hwd, rfl⟩ : ∃ wd, (wd = "say" ∨ wd = "hear" ∨ wd = "both") ∧ x = .str (Str.ofString wd) := by
      simp only [List.mem_cons, List.not_mem_nil, or_false] at hx
      rcases hx with z | z | z | z
      · exact ⟨_, .inl rfl, z⟩
      · exact ⟨_, .inr (.inl rfl), z⟩
      · exact ⟨_, .inr (.inr rfl), z⟩
      · exact ⟨_, .inr (.inr rfl), z⟩
    refine ws_step (by unfold w_law_rules_5; simp only [runR, Nat.reduceAdd, Nat.reduceSub, Int.reduceBEq, Int.reduceEq, Int.reduceLT, Int.reduceLE, Int.reduceNeg, Int.reduceAdd, Int.reduceSub, Int.reduceMul, Int.reduceToNat, Nat.reduceLT, Nat.reduceLeDiff, reduceIte, Int.reduceNe, Int.reduceBNe, String.reduceBEq, h6] <;> exact rfl) ?_
    obtain ⟨x, hx, s7, h7, o7⟩ := ev_pick ns (l := lvs [[], [], [104, 49], [104, 50], [104, 51]]) o6 (by omega) (by simp)
    obtain ⟨h, hh, rfl⟩ := pick_lv hx
    have hok : h = [] ∨ isHearer h = true := by
      have : ∀ h ∈ ([[], [], [104, 49], [104, 50], [104, 51]] : Lv), h = [] ∨ isHearer h = true := by decide
      exact this h hh
    simp only [lvs, List.map_cons, List.map_nil] at h7
    refine ws_step (by unfold w_law_rules_6; simp only [runR, Nat.reduceAdd, Nat.reduceSub, Int.reduceBEq, Int.reduceEq, Int.reduceLT, Int.reduceLE, Int.reduceNeg, Int.reduceAdd, Int.reduceSub, Int.reduceMul, Int.reduceToNat, Nat.reduceLT, Nat.reduceLeDiff, reduceIte, Int.reduceNe, Int.reduceBNe, String.reduceBEq, t_nil, t_h1, t_h2, t_h3, h7] <;> exact rfl) ?_
    obtain ⟨v4, hv4, s8, h8, o8⟩ := ev_draw ns (many := 2) o7 (by omega) (by decide)
    have g8 : s8[s.length]? = some (.lst (rs.map Ru.d)) := (Own.at_ (i := (s.length)) o8 (by repeat first | exact Tk.hd | apply Tk.tl))
    have g7 : s7[s.length]? = some (.lst (rs.map Ru.d)) := (Own.at_ (i := (s.length)) o7 (by repeat first | exact Tk.hd | apply Tk.tl))
    have hz := szl (n := (rs.map Ru.d).length) (by rw [List.length_map]; omega)
    refine ws_nx (by unfold w_law_rules_7; simp only [runR, Nat.reduceAdd, Nat.reduceSub, Int.reduceBEq, Int.reduceEq, Int.reduceLT, Int.reduceLE, Int.reduceNeg, Int.reduceAdd, Int.reduceSub, Int.reduceMul, Int.reduceToNat, Nat.reduceLT, Nat.reduceLeDiff, reduceIte, Int.reduceNe, Int.reduceBNe, String.reduceBEq, h8, g7, g8, isLst_at, Option.isSome_some, dApp_obj g8 hz] <;> exact rfl) ⟨[_, _, _, _, _, _, _], rfl, rfl, rs ++ [⟨((v4 : Int) == 0), h, wd, w⟩], by simp [hl], ?_, ?_⟩
    · intro r hr'
      rcases List.mem_append.mp hr' with hr' | hr'
      · exact hr r hr'
      · rw [List.mem_singleton] at hr'
        rw [hr']
        exact ⟨hok, hwd, hw⟩
    · have o9 : Own (At s.length (.lst (rs.map Ru.d)) :: Tw t (N + 1 + 20 * k + 6 + 1 + 1 + 1) :: R) s8 := (Own.pm o8 (by repeat first | exact Pm.rfl | (apply Pm.cons; repeat first | exact Tk.hd | apply Tk.tl) | apply Pm.skip))
      have oA := o9.set (.lst (rs.map Ru.d ++ [Ru.d ⟨((v4 : Int) == 0), h, wd, w⟩]))
      have oB : Own (Tw t (N + 1 + 20 * k + 6 + 1 + 1 + 1) :: At s.length (.lst (rs.map Ru.d ++ [Ru.d ⟨((v4 : Int) == 0), h, wd, w⟩])) :: R) _ := (Own.pm oA (by repeat first | exact Pm.rfl | (apply Pm.cons; repeat first | exact Tk.hd | apply Tk.tl) | apply Pm.skip))
      have := oB.more (M := N + 1 + 20 * (k + 1)) (by omega)
      rw [List.map_append]
      exact this
  · rintro xs s2 hx ⟨rs, hl, hr, o2⟩
    obtain ⟨x4, x5, x6, x7, x8, x9, x10, rfl⟩ : ∃ a b c d e f g, xs = [a, b, c, d, e, f, g] := by
      match xs, hx with
      | [a, b, c, d, e, f, g], _ => exact ⟨a, b, c, d, e, f, g, rfl⟩
    dsimp only
    refine ws_rt (by unfold u_law_rules_3; simp only [runR, Nat.reduceAdd, Nat.reduceSub, Int.reduceBEq, Int.reduceEq, Int.reduceLT, Int.reduceLE, Int.reduceNeg, Int.reduceAdd, Int.reduceSub, Int.reduceMul, Int.reduceToNat, Nat.reduceLT, Nat.reduceLeDiff, reduceIte, Int.reduceNe, Int.reduceBNe, String.reduceBEq] <;> exact rfl) ?_
    exact ⟨rs, s.length, by omega, hr, rfl, o2.more (by omega)⟩
end Tx
namespace Tx
open PySem L2 Pd
/-! ### rules that are none -/
theorem wo_exc {α : Type} {o : Out α} {c : Nat} {s : Sto} (h : WO o (fun _ _ => False) (fun c' s' => c' = c ∧ s' = s)) : o = .exc c s := by
  cases o with
  | ok d s' => exact h.elim
  | exc c' s' => obtain ⟨rfl, rfl⟩ := h; rfl
  | bad => exact h.elim
theorem py_rs : ∀ rs : List Ru, ∃ ps, toPys (rs.map Ru.d) = some ps ∧ PyData.depthAll ps ≤ 2 ∧ PyData.eqvAll ps ps = true
  | [] => ⟨[], rfl, by decide, rfl⟩
  | r :: rs => by
    obtain ⟨ps, h1, h2, h3⟩ := py_rs rs
    simp only [List.map_cons, Ru.d, toPys, toPy, h1]
    refine ⟨_, rfl, ?_, ?_⟩
    · simp only [PyData.depthAll, PyData.depth]
      omega
    · simp [PyData.eqvAll, PyData.eqv, h3]
theorem ne_rs {rs : List Ru} {j : Nat} {s : Sto} (g : s[j]? = some (.lst (rs.map Ru.d))) : dNe (.lst (rs.map Ru.d)) (.obj j) s = .ok (.bl false) s := by
  obtain ⟨ps, h1, h2, h3⟩ := py_rs rs
  have e1 : toPyS s (.lst (rs.map Ru.d)) = some (.list ps) := by simp only [toPyS, toPy, h1, Option.map_some]
  have e2 : toPyS s (.obj j) = some (.list ps) := by simp only [toPyS, g, h1, Option.map_some]
  unfold dNe dEqB
  rw [e1, e2]
  have hd : (PyData.list ps).depth ≤ 64 := by simp only [PyData.depth]; omega
  have he : PyData.eqv (.list ps) (.list ps) = true := by simp only [PyData.eqv]; exact h3
  simp only [hd, he, and_self, if_true]
  rfl
def badD : List Dt := [.tup [.bl true, .str (mkS []), .str (Str.ofString "none"), .str (mkS [35])], .tup [.bl true, .str (mkS [72]), .str (Str.ofString "say"), .str (mkS [35])], .tup [.bl true, .str (mkS []), .str (Str.ofString "say"), .str (mkS [97, 35])], .tup [.bl true, .str (mkS []), .str (Str.ofString "say")]]
theorem bad_body {d b : Dt} (hb : b ∈ badD) (s : Sto) : l_look_rules_1 [some d, some b] s = .exc 2 [some d, some b] s := by
  simp only [badD, List.mem_cons, List.not_mem_nil, or_false] at hb
  have n1 : ("say" == "none" || ("hear" == "none" || "both" == "none")) = false := by decide
  have n2 : ("say" == "say" || ("hear" == "say" || "both" == "say")) = true := by decide
  have n3 : isHearer [72] = false := by decide
  have n4 : isWish [97, 35] = false := by decide
  have n5 : ([72] == ([] : List Nat)) = false := rfl
  unfold l_look_rules_1 w_look_rules_1 w_look_rules_2 w_look_rules_3
  rcases hb with rfl | rfl | rfl | rfl
  · simp only [runR, Nat.reduceAdd, Nat.reduceSub, Int.reduceBEq, Int.reduceEq, Int.reduceLT, Int.reduceLE, Int.reduceNeg, Int.reduceAdd, Int.reduceSub, Int.reduceMul, Int.reduceToNat, Nat.reduceLT, Nat.reduceLeDiff, reduceIte, Int.reduceNe, Int.reduceBNe, String.reduceBEq, dIn_tfb, dNotIn_t3, n1]
  · simp only [runR, Nat.reduceAdd, Nat.reduceSub, Int.reduceBEq, Int.reduceEq, Int.reduceLT, Int.reduceLE, Int.reduceNeg, Int.reduceAdd, Int.reduceSub, Int.reduceMul, Int.reduceToNat, Nat.reduceLT, Nat.reduceLeDiff, reduceIte, Int.reduceNe, Int.reduceBNe, String.reduceBEq, dIn_tfb, dNotIn_t3, n2, t_nil, dNe_mk, ev_look_hearer, n3, n5]
  · simp only [runR, Nat.reduceAdd, Nat.reduceSub, Int.reduceBEq, Int.reduceEq, Int.reduceLT, Int.reduceLE, Int.reduceNeg, Int.reduceAdd, Int.reduceSub, Int.reduceMul, Int.reduceToNat, Nat.reduceLT, Nat.reduceLeDiff, reduceIte, Int.reduceNe, Int.reduceBNe, String.reduceBEq, dIn_tfb, dNotIn_t3, n2, t_nil, dNe_mk, ev_look_wish, n4]
  · simp only [runR, Nat.reduceAdd, Nat.reduceSub, Int.reduceBEq, Int.reduceEq, Int.reduceLT, Int.reduceLE, Int.reduceNeg, Int.reduceAdd, Int.reduceSub, Int.reduceMul, Int.reduceToNat, Nat.reduceLT, Nat.reduceLeDiff, reduceIte, Int.reduceNe, Int.reduceBNe, String.reduceBEq]
theorem no_look_rules {L : List SP} {d b : Dt} {rs : List Ru} {s : Sto} (o : Own L s) (hd : Has L d (rs.map Ru.d ++ [b])) (ok : RsOk rs) (h11 : rs.length ≤ 11) (hb : b ∈ badD) : m_look_rules [d] s = .exc 2 s := by
  refine wo_exc ?_
  unfold m_look_rules b_look_rules
  refine wf_fn ?_
  have L1 := hd.asL o
  have ln := len_L L1
  rw [List.length_append, List.length_map] at ln
  have hg : ¬ ((12 : Int) < ((rs.length + 1 : Nat) : Int)) := by omega
  have ln : dLen d s = .ok (.int ((rs.length + 1 : Nat) : Int)) s := ln
  refine ws_step (by unfold u_look_rules_1; simp only [runR, Nat.reduceAdd, Nat.reduceSub, Int.reduceBEq, Int.reduceEq, Int.reduceLT, Int.reduceLE, Int.reduceNeg, Int.reduceAdd, Int.reduceSub, Int.reduceMul, Int.reduceToNat, Nat.reduceLT, Nat.reduceLeDiff, reduceIte, Int.reduceNe, Int.reduceBNe, String.reduceBEq, ln, dGt, hg] <;> exact rfl) ?_
  unfold u_look_rules_2
  have hi : iSeq (eVar 0) [some d, none] s = .ok ((rs.map Ru.d ++ [b]).map id, fun s' => asQ s' d = some (rs.map Ru.d ++ [b])) s := by
    rw [List.map_id]
    exact iSeq_L (by simp only [runR, Nat.reduceAdd, Nat.reduceSub, Int.reduceBEq, Int.reduceEq, Int.reduceLT, Int.reduceLE, Int.reduceNeg, Int.reduceAdd, Int.reduceSub, Int.reduceMul, Int.reduceToNat, Nat.reduceLT, Nat.reduceLeDiff, reduceIte, Int.reduceNe, Int.reduceBNe, String.reduceBEq]) L1
  refine ws_for (f := id) [1] (fun pre _ s' => s' = s ∧ pre.length ≤ rs.length) (l := rs.map Ru.d ++ [b]) (s0 := s) hi rfl ⟨rfl, Nat.zero_le _⟩ ?_ ?_
  · rintro pre x post xs s' hall hx ⟨rfl, hp⟩
    obtain ⟨y, rfl⟩ := len1 hx
    refine ⟨asQ_L L1, _, rfl, ?_⟩
    have hlen := congrArg List.length hall
    simp only [List.length_append, List.length_map, List.length_cons, List.length_nil] at hlen
    by_cases hpost : post = []
    · subst hpost
      have : x = b := by
        have := congrArg List.getLast? hall
        simpa using this.symm
      subst this
      exact ws_ex (bad_body hb s') ⟨rfl, rfl⟩
    · have hxm : x ∈ rs.map Ru.d := by
        have h2 := congrArg List.dropLast hall
        rw [List.dropLast_concat, List.dropLast_append_of_ne_nil (by simp), List.dropLast_cons_of_ne_nil hpost] at h2
        rw [h2]; simp
      obtain ⟨r, hr0, rfl⟩ := List.mem_map.mp hxm
      have hr := ok.2 r hr0
      have hw : ("say" == r.wd || ("hear" == r.wd || "both" == r.wd)) = true := by rcases hr.wd with h | h | h <;> rw [h] <;> rfl
      unfold l_look_rules_1
      refine ws_step (e := [some d, some r.d]) (s1 := s') ?_ ?_
      · unfold w_look_rules_1 Ru.d
        simp only [runR, Nat.reduceAdd, Nat.reduceSub, Int.reduceBEq, Int.reduceEq, Int.reduceLT, Int.reduceLE, Int.reduceNeg, Int.reduceAdd, Int.reduceSub, Int.reduceMul, Int.reduceToNat, Nat.reduceLT, Nat.reduceLeDiff, reduceIte, Int.reduceNe, Int.reduceBNe, String.reduceBEq, dIn_tfb, dNotIn_t3, hw, id]
      refine ws_step (e := [some d, some r.d]) (s1 := s') ?_ ?_
      · unfold w_look_rules_2 Ru.d
        rcases hr.h with h | h
        · rw [h]
          simp only [runR, Nat.reduceAdd, Nat.reduceSub, Int.reduceBEq, Int.reduceEq, Int.reduceLT, Int.reduceLE, Int.reduceNeg, Int.reduceAdd, Int.reduceSub, Int.reduceMul, Int.reduceToNat, Nat.reduceLT, Nat.reduceLeDiff, reduceIte, Int.reduceNe, Int.reduceBNe, String.reduceBEq, t_nil, dNe_mk]
        · have hne : (r.h == []) = false := by
            cases he : r.h with
            | nil => rw [he] at h; exact absurd h (by decide)
            | cons => rfl
          simp only [runR, Nat.reduceAdd, Nat.reduceSub, Int.reduceBEq, Int.reduceEq, Int.reduceLT, Int.reduceLE, Int.reduceNeg, Int.reduceAdd, Int.reduceSub, Int.reduceMul, Int.reduceToNat, Nat.reduceLT, Nat.reduceLeDiff, reduceIte, Int.reduceNe, Int.reduceBNe, String.reduceBEq, t_nil, dNe_mk, hne, ev_look_hearer, h]
      · have := List.length_pos_iff.mpr hpost
        refine ws_nx (e := [some d, some r.d]) (s1 := s') ?_ ⟨[_], rfl, rfl, rfl, by simp; omega⟩
        unfold w_look_rules_3 Ru.d
        simp only [runR, Nat.reduceAdd, Nat.reduceSub, Int.reduceBEq, Int.reduceEq, Int.reduceLT, Int.reduceLE, Int.reduceNeg, Int.reduceAdd, Int.reduceSub, Int.reduceMul, Int.reduceToNat, Nat.reduceLT, Nat.reduceLeDiff, reduceIte, Int.reduceNe, Int.reduceBNe, String.reduceBEq, ev_look_wish, hr.w]
  · rintro xs s' hx ⟨rfl, hp⟩
    simp at hp
    omega
theorem no_look13 {L : List SP} {d : Dt} {l : List Dt} {s : Sto} (o : Own L s) (hd : Has L d l) (h13 : l.length = 13) : m_look_rules [d] s = .exc 2 s := by
  refine wo_exc ?_
  unfold m_look_rules b_look_rules
  refine wf_fn ?_
  have L1 := hd.asL o
  have ln := len_L L1
  rw [h13] at ln
  have hg : ((12 : Int) < ((13 : Nat) : Int)) := by decide
  refine ws_seq (ws_ex (c := 2) (e := [some d, none]) (s1 := s) ?_ ⟨rfl, rfl⟩)
  unfold u_look_rules_1
  simp only [runR, Nat.reduceAdd, Nat.reduceSub, Int.reduceBEq, Int.reduceEq, Int.reduceLT, Int.reduceLE, Int.reduceNeg, Int.reduceAdd, Int.reduceSub, Int.reduceMul, Int.reduceToNat, Nat.reduceLT, Nat.reduceLeDiff, reduceIte, Int.reduceNe, Int.reduceBNe, String.reduceBEq, ln, dGt, hg]
theorem no_say {d : Dt} {h n : List Nat} {s : Sto} (k : m_look_rules [d] s = .exc 2 s ∨ m_look_rules [d] s = .ok .non s ∧ (isHearer h = false ∨ isHearer h = true ∧ isName n = false)) : m_may_say [d, .str (mkS h), .str (mkS n)] s = .exc 2 s := by
  refine wo_exc ?_
  unfold m_may_say b_may_say
  refine wf_fn ?_
  rcases k with e | ⟨e, hh | ⟨hh, hn⟩⟩
  · refine ws_seq (ws_ex (c := 2) (s1 := s) (by unfold u_may_say_1; simp only [runR, Nat.reduceAdd, Nat.reduceSub, Int.reduceBEq, Int.reduceEq, Int.reduceLT, Int.reduceLE, Int.reduceNeg, Int.reduceAdd, Int.reduceSub, Int.reduceMul, Int.reduceToNat, Nat.reduceLT, Nat.reduceLeDiff, reduceIte, Int.reduceNe, Int.reduceBNe, String.reduceBEq, e] <;> exact rfl) ⟨rfl, rfl⟩)
  · refine ws_step (by unfold u_may_say_1; simp only [runR, Nat.reduceAdd, Nat.reduceSub, Int.reduceBEq, Int.reduceEq, Int.reduceLT, Int.reduceLE, Int.reduceNeg, Int.reduceAdd, Int.reduceSub, Int.reduceMul, Int.reduceToNat, Nat.reduceLT, Nat.reduceLeDiff, reduceIte, Int.reduceNe, Int.reduceBNe, String.reduceBEq, e] <;> exact rfl) ?_
    refine ws_seq (ws_ex (c := 2) (s1 := s) (by unfold u_may_say_2; simp only [runR, Nat.reduceAdd, Nat.reduceSub, Int.reduceBEq, Int.reduceEq, Int.reduceLT, Int.reduceLE, Int.reduceNeg, Int.reduceAdd, Int.reduceSub, Int.reduceMul, Int.reduceToNat, Nat.reduceLT, Nat.reduceLeDiff, reduceIte, Int.reduceNe, Int.reduceBNe, String.reduceBEq, ev_look_hearer, hh] <;> exact rfl) ⟨rfl, rfl⟩)
  · refine ws_step (by unfold u_may_say_1; simp only [runR, Nat.reduceAdd, Nat.reduceSub, Int.reduceBEq, Int.reduceEq, Int.reduceLT, Int.reduceLE, Int.reduceNeg, Int.reduceAdd, Int.reduceSub, Int.reduceMul, Int.reduceToNat, Nat.reduceLT, Nat.reduceLeDiff, reduceIte, Int.reduceNe, Int.reduceBNe, String.reduceBEq, e] <;> exact rfl) ?_
    refine ws_step (by unfold u_may_say_2; simp only [runR, Nat.reduceAdd, Nat.reduceSub, Int.reduceBEq, Int.reduceEq, Int.reduceLT, Int.reduceLE, Int.reduceNeg, Int.reduceAdd, Int.reduceSub, Int.reduceMul, Int.reduceToNat, Nat.reduceLT, Nat.reduceLeDiff, reduceIte, Int.reduceNe, Int.reduceBNe, String.reduceBEq, ev_look_hearer, hh] <;> exact rfl) ?_
    refine ws_seq (ws_ex (c := 2) (s1 := s) (by unfold u_may_say_3; simp only [runR, Nat.reduceAdd, Nat.reduceSub, Int.reduceBEq, Int.reduceEq, Int.reduceLT, Int.reduceLE, Int.reduceNeg, Int.reduceAdd, Int.reduceSub, Int.reduceMul, Int.reduceToNat, Nat.reduceLT, Nat.reduceLeDiff, reduceIte, Int.reduceNe, Int.reduceBNe, String.reduceBEq, ev_look_name, hn] <;> exact rfl) ⟨rfl, rfl⟩)
theorem no_hear {d : Dt} {h w : List Nat} {s : Sto} (k : m_look_rules [d] s = .exc 2 s ∨ m_look_rules [d] s = .ok .non s ∧ (isHearer h = false ∨ isHearer h = true ∧ isWish w = false)) : m_may_hear [d, .str (mkS h), .str (mkS w)] s = .exc 2 s := by
  refine wo_exc ?_
  unfold m_may_hear b_may_hear
  refine wf_fn ?_
  rcases k with e | ⟨e, hh | ⟨hh, hn⟩⟩
  · refine ws_seq (ws_ex (c := 2) (s1 := s) (by unfold u_may_hear_1; simp only [runR, Nat.reduceAdd, Nat.reduceSub, Int.reduceBEq, Int.reduceEq, Int.reduceLT, Int.reduceLE, Int.reduceNeg, Int.reduceAdd, Int.reduceSub, Int.reduceMul, Int.reduceToNat, Nat.reduceLT, Nat.reduceLeDiff, reduceIte, Int.reduceNe, Int.reduceBNe, String.reduceBEq, e] <;> exact rfl) ⟨rfl, rfl⟩)
  · refine ws_step (by unfold u_may_hear_1; simp only [runR, Nat.reduceAdd, Nat.reduceSub, Int.reduceBEq, Int.reduceEq, Int.reduceLT, Int.reduceLE, Int.reduceNeg, Int.reduceAdd, Int.reduceSub, Int.reduceMul, Int.reduceToNat, Nat.reduceLT, Nat.reduceLeDiff, reduceIte, Int.reduceNe, Int.reduceBNe, String.reduceBEq, e] <;> exact rfl) ?_
    refine ws_seq (ws_ex (c := 2) (s1 := s) (by unfold u_may_hear_2; simp only [runR, Nat.reduceAdd, Nat.reduceSub, Int.reduceBEq, Int.reduceEq, Int.reduceLT, Int.reduceLE, Int.reduceNeg, Int.reduceAdd, Int.reduceSub, Int.reduceMul, Int.reduceToNat, Nat.reduceLT, Nat.reduceLeDiff, reduceIte, Int.reduceNe, Int.reduceBNe, String.reduceBEq, ev_look_hearer, hh] <;> exact rfl) ⟨rfl, rfl⟩)
  · refine ws_step (by unfold u_may_hear_1; simp only [runR, Nat.reduceAdd, Nat.reduceSub, Int.reduceBEq, Int.reduceEq, Int.reduceLT, Int.reduceLE, Int.reduceNeg, Int.reduceAdd, Int.reduceSub, Int.reduceMul, Int.reduceToNat, Nat.reduceLT, Nat.reduceLeDiff, reduceIte, Int.reduceNe, Int.reduceBNe, String.reduceBEq, e] <;> exact rfl) ?_
    refine ws_step (by unfold u_may_hear_2; simp only [runR, Nat.reduceAdd, Nat.reduceSub, Int.reduceBEq, Int.reduceEq, Int.reduceLT, Int.reduceLE, Int.reduceNeg, Int.reduceAdd, Int.reduceSub, Int.reduceMul, Int.reduceToNat, Nat.reduceLT, Nat.reduceLeDiff, reduceIte, Int.reduceNe, Int.reduceBNe, String.reduceBEq, ev_look_hearer, hh] <;> exact rfl) ?_
    refine ws_seq (ws_ex (c := 2) (s1 := s) (by unfold u_may_hear_3; simp only [runR, Nat.reduceAdd, Nat.reduceSub, Int.reduceBEq, Int.reduceEq, Int.reduceLT, Int.reduceLE, Int.reduceNeg, Int.reduceAdd, Int.reduceSub, Int.reduceMul, Int.reduceToNat, Nat.reduceLT, Nat.reduceLeDiff, reduceIte, Int.reduceNe, Int.reduceBNe, String.reduceBEq, ev_look_wish, hn] <;> exact rfl) ⟨rfl, rfl⟩)
/-! ### told -/
abbrev refd : Dt := .tup [.str (Str.ofString "refused"), .str (Str.ofString "name")]
theorem told_say {d h x v : Dt} {s s' : Sto} (e : m_may_say [d, h, x] s = .ok v s') : m_law_told [.int 0, d, h, x] s = .ok v s' := by
  unfold m_law_told b_law_told u_law_told_1 u_law_told_2 u_law_told_3 u_law_told_4
  simp only [evR, Nat.reduceAdd, Nat.reduceSub, Int.reduceBEq, Int.reduceEq, Int.reduceLT, Int.reduceLE, Int.reduceNeg, Int.reduceAdd, Int.reduceSub, Int.reduceMul, Int.reduceToNat, Nat.reduceLT, Nat.reduceLeDiff, reduceIte, Int.reduceNe, Int.reduceBNe, String.reduceBEq, ev_tryH, e]
theorem told_say_no {d h x : Dt} {s s' : Sto} (e : m_may_say [d, h, x] s = .exc 2 s') : m_law_told [.int 0, d, h, x] s = .ok refd s' := by
  unfold m_law_told b_law_told u_law_told_1 u_law_told_2 u_law_told_3 u_law_told_4
  simp only [evR, Nat.reduceAdd, Nat.reduceSub, Int.reduceBEq, Int.reduceEq, Int.reduceLT, Int.reduceLE, Int.reduceNeg, Int.reduceAdd, Int.reduceSub, Int.reduceMul, Int.reduceToNat, Nat.reduceLT, Nat.reduceLeDiff, reduceIte, Int.reduceNe, Int.reduceBNe, String.reduceBEq, ev_tryH, e, ev_refusal, List.mem_cons]
theorem told_hear {d h x v : Dt} {s s' : Sto} (e : m_may_hear [d, h, x] s = .ok v s') : m_law_told [.int 1, d, h, x] s = .ok v s' := by
  unfold m_law_told b_law_told u_law_told_1 u_law_told_2 u_law_told_3 u_law_told_4
  simp only [evR, Nat.reduceAdd, Nat.reduceSub, Int.reduceBEq, Int.reduceEq, Int.reduceLT, Int.reduceLE, Int.reduceNeg, Int.reduceAdd, Int.reduceSub, Int.reduceMul, Int.reduceToNat, Nat.reduceLT, Nat.reduceLeDiff, reduceIte, Int.reduceNe, Int.reduceBNe, String.reduceBEq, ev_tryH, e]
theorem told_hear_no {d h x : Dt} {s s' : Sto} (e : m_may_hear [d, h, x] s = .exc 2 s') : m_law_told [.int 1, d, h, x] s = .ok refd s' := by
  unfold m_law_told b_law_told u_law_told_1 u_law_told_2 u_law_told_3 u_law_told_4
  simp only [evR, Nat.reduceAdd, Nat.reduceSub, Int.reduceBEq, Int.reduceEq, Int.reduceLT, Int.reduceLE, Int.reduceNeg, Int.reduceAdd, Int.reduceSub, Int.reduceMul, Int.reduceToNat, Nat.reduceLT, Nat.reduceLeDiff, reduceIte, Int.reduceNe, Int.reduceBNe, String.reduceBEq, ev_tryH, e, ev_refusal, List.mem_cons]
end Tx
namespace Tx
open PySem L2 Pd
/-! ### law k40 -/
theorem rulO_cons (r : Ru) (rs : List Ru) (h : List Nat) (word : String) : rulO (r :: rs) h word = if forR h word r = true then r :: rulO rs h word else rulO rs h word := by unfold rulO; rw [List.filter_cons]
theorem dIsi_str {z : Str} {s : Sto} : dIsi "str" (.str z) s = .ok (.bl true) s := rfl
theorem dIsi_bl {b : Bool} {s : Sto} : dIsi "bool" (.bl b) s = .ok (.bl true) s := rfl
theorem dNe_bl' {a b : Bool} {s : Sto} : dNe (.bl a) (.bl b) s = .ok (.bl (!(a == b))) s := rfl
theorem ev_law_lets {L : List SP} {d : Dt} {rs : List Ru} {h n : List Nat} {word : String} {s : Sto} (o : Own L s) (hd : Has L d (rs.map Ru.d)) (ok : ∀ r ∈ rs, r.Ok) : m_law_lets [d, .str (mkS h), .str (Str.ofString word), .str (mkS n)] s = .ok (.bl (letC (rulO rs h word) n)) s := by
  suffices k : WO (m_law_lets [d, .str (mkS h), .str (Str.ofString word), .str (mkS n)] s) (fun r s' => r = .bl (letC (rulO rs h word) n) ∧ s' = s) noX by
    obtain ⟨d, s', e, rfl, rfl⟩ := wo_iff k
    exact e
  unfold m_law_lets b_law_lets
  refine wf_fn ?_
  have L1 := hd.asL o
  refine ws_seq ?_
  unfold u_law_lets_1
  refine ws_for (f := Ru.d) [4] (fun pre _ s' => s' = s ∧ ∀ post, rs = pre ++ post → letC (rulO rs h word) n = letC (rulO post h word) n) (l := rs) (s0 := s) (iSeq_L (by simp only [runR, Nat.reduceAdd, Nat.reduceSub, Int.reduceBEq, Int.reduceEq, Int.reduceLT, Int.reduceLE, Int.reduceNeg, Int.reduceAdd, Int.reduceSub, Int.reduceMul, Int.reduceToNat, Nat.reduceLT, Nat.reduceLeDiff, reduceIte, Int.reduceNe, Int.reduceBNe, String.reduceBEq]) L1) rfl ⟨rfl, fun post h => by rw [h]; rfl⟩ ?_ ?_
  · rintro pre r post xs s' hall hx ⟨rfl, hj⟩
    obtain ⟨x, rfl⟩ := len1 hx
    refine ⟨asQ_L L1, _, rfl, ?_⟩
    have hc := hj _ hall
    have hr := ok r (by rw [hall]; simp)
    have ef := ev_law_fits hr.w (l := n) s'
    rw [rulO_cons] at hc
    have nxt : letC (rulO rs h word) n = letC (rulO post h word) n → ∀ post', rs = pre ++ [r] ++ post' → letC (rulO rs h word) n = letC (rulO post' h word) n := fun k post' h' => by
      rw [k]
      rw [hall, List.append_assoc] at h'
      have := List.append_cancel_left h'
      rw [List.singleton_append] at this
      cases this
      rfl
    unfold l_law_lets_1
    cases h1 : ([] == r.h || h == r.h) with
    | false =>
      have hf : forR h word r = false := by unfold forR; rw [h1]; rfl
      rw [hf, if_neg Bool.false_ne_true] at hc
      exact ws_ifF (s1 := s') (by unfold Ru.d; simp only [runR, Nat.reduceAdd, Nat.reduceSub, Int.reduceBEq, Int.reduceEq, Int.reduceLT, Int.reduceLE, Int.reduceNeg, Int.reduceAdd, Int.reduceSub, Int.reduceMul, Int.reduceToNat, Nat.reduceLT, Nat.reduceLeDiff, reduceIte, Int.reduceNe, Int.reduceBNe, String.reduceBEq, t_nil, dIn_two, h1]) (ws_next ⟨[_], rfl, rfl, rfl, nxt hc⟩)
    | true =>
      cases h2 : (word == r.wd || "both" == r.wd) with
      | false =>
        have hf : forR h word r = false := by unfold forR; rw [h1, h2]; rfl
        rw [hf, if_neg Bool.false_ne_true] at hc
        exact ws_ifF (s1 := s') (by unfold Ru.d; simp only [runR, Nat.reduceAdd, Nat.reduceSub, Int.reduceBEq, Int.reduceEq, Int.reduceLT, Int.reduceLE, Int.reduceNeg, Int.reduceAdd, Int.reduceSub, Int.reduceMul, Int.reduceToNat, Nat.reduceLT, Nat.reduceLeDiff, reduceIte, Int.reduceNe, Int.reduceBNe, String.reduceBEq, t_nil, dIn_two, h1, dIn_t2, h2]) (ws_next ⟨[_], rfl, rfl, rfl, nxt hc⟩)
      | true =>
        have hf : forR h word r = true := by unfold forR; rw [h1, h2]; rfl
        rw [hf, if_pos rfl, letC] at hc
        cases hfit : fitsC r.w n with
        | true =>
          rw [hfit] at ef
          rw [hfit, if_pos rfl] at hc
          exact ws_ifT (s1 := s') (by unfold Ru.d; simp only [runR, Nat.reduceAdd, Nat.reduceSub, Int.reduceBEq, Int.reduceEq, Int.reduceLT, Int.reduceLE, Int.reduceNeg, Int.reduceAdd, Int.reduceSub, Int.reduceMul, Int.reduceToNat, Nat.reduceLT, Nat.reduceLeDiff, reduceIte, Int.reduceNe, Int.reduceBNe, String.reduceBEq, t_nil, dIn_two, h1, dIn_t2, h2, ef]) (ws_ret (we_ok (d := .bl r.l) (s1 := s') (by unfold Ru.d; simp only [runR, Nat.reduceAdd, Nat.reduceSub, Int.reduceBEq, Int.reduceEq, Int.reduceLT, Int.reduceLE, Int.reduceNeg, Int.reduceAdd, Int.reduceSub, Int.reduceMul, Int.reduceToNat, Nat.reduceLT, Nat.reduceLeDiff, reduceIte, Int.reduceNe, Int.reduceBNe, String.reduceBEq]) ⟨by rw [hc], rfl⟩))
        | false =>
          rw [hfit] at ef
          rw [hfit, if_neg Bool.false_ne_true] at hc
          exact ws_ifF (s1 := s') (by unfold Ru.d; simp only [runR, Nat.reduceAdd, Nat.reduceSub, Int.reduceBEq, Int.reduceEq, Int.reduceLT, Int.reduceLE, Int.reduceNeg, Int.reduceAdd, Int.reduceSub, Int.reduceMul, Int.reduceToNat, Nat.reduceLT, Nat.reduceLeDiff, reduceIte, Int.reduceNe, Int.reduceBNe, String.reduceBEq, t_nil, dIn_two, h1, dIn_t2, h2, ef]) (ws_next ⟨[_], rfl, rfl, rfl, nxt hc⟩)
  · rintro xs s' hx ⟨rfl, hj⟩
    refine ⟨asQ_L L1, ?_⟩
    have hc := hj [] (by simp)
    obtain ⟨x, rfl⟩ := len1 hx
    dsimp only
    unfold u_law_lets_2
    exact ws_ret (we_ok (d := .bl true) (s1 := s') (by simp only [runR, Nat.reduceAdd, Nat.reduceSub, Int.reduceBEq, Int.reduceEq, Int.reduceLT, Int.reduceLE, Int.reduceNeg, Int.reduceAdd, Int.reduceSub, Int.reduceMul, Int.reduceToNat, Nat.reduceLT, Nat.reduceLeDiff, reduceIte, Int.reduceNe, Int.reduceBNe, String.reduceBEq]) ⟨by rw [hc]; rfl, rfl⟩)
theorem ev_law_good {L : List SP} {d : Dt} {rs : List Ru} {h w : List Nat} {s : Sto} (o : Own L s) (hd : Has L d (rs.map Ru.d)) (ok : RsOk rs) (hh : isHearer h = true) (hw : isWish w = true) : WO (m_law_good [d, .str (mkS h), .str (mkS w)] s) (fun v s' => v = .bl true ∧ Own L s') noX := by
  unfold m_law_good b_law_good
  refine wf_fn ?_
  obtain ⟨v, s1, e1, rfl, o1⟩ := wo_iff (ev_may_hear' o hd ok hh hw)
  have e2 := told_hear e1
  refine ws_step (by unfold u_law_good_1; simp only [runR, Nat.reduceAdd, Nat.reduceSub, Int.reduceBEq, Int.reduceEq, Int.reduceLT, Int.reduceLE, Int.reduceNeg, Int.reduceAdd, Int.reduceSub, Int.reduceMul, Int.reduceToNat, Nat.reduceLT, Nat.reduceLeDiff, reduceIte, Int.reduceNe, Int.reduceBNe, String.reduceBEq, e2] <;> exact rfl) ?_
  have lf : ∀ n, m_law_fits [.str (mkS w), .str (mkS n)] s1 = .ok (.bl (fitsC w n)) s1 := fun n => ev_law_fits hw s1
  cases hv : hearF rs h w with
  | none =>
    refine ws_seq ?_
    unfold u_law_good_2
    refine ws_ifT (s1 := s1) (by simp only [runR, Nat.reduceAdd, Nat.reduceSub, Int.reduceBEq, Int.reduceEq, Int.reduceLT, Int.reduceLE, Int.reduceNeg, Int.reduceAdd, Int.reduceSub, Int.reduceMul, Int.reduceToNat, Nat.reduceLT, Nat.reduceLeDiff, reduceIte, Int.reduceNe, Int.reduceBNe, String.reduceBEq, encN]) ?_
    refine ws_mid (fun e s' => e = [some d, some (.str (mkS h)), some (.str (mkS w)), some .non, some (.lst (lvs (namesL.filter (fitsC w)))), none] ∧ s' = s1) ?_ ?_
    · refine ws_set (we_lcF (f := fun l : List Nat => Dt.str (mkS l)) (p := fitsC w) (g := fun l => Dt.str (mkS l)) (l := namesL) (s0 := s1) (iSeq_L (d := .lst (lvs namesL)) (by simp only [runR, Nat.reduceAdd, Nat.reduceSub, Int.reduceBEq, Int.reduceEq, Int.reduceLT, Int.reduceLE, Int.reduceNeg, Int.reduceAdd, Int.reduceSub, Int.reduceMul, Int.reduceToNat, Nat.reduceLT, Nat.reduceLeDiff, reduceIte, Int.reduceNe, Int.reduceBNe, String.reduceBEq, ev_law_names]) rfl) rfl ?_ (wo_ok ⟨rfl, rfl⟩))
      intro n _
      exact ⟨_, rfl, by simp only [runR, Nat.reduceAdd, Nat.reduceSub, Int.reduceBEq, Int.reduceEq, Int.reduceLT, Int.reduceLE, Int.reduceNeg, Int.reduceAdd, Int.reduceSub, Int.reduceMul, Int.reduceToNat, Nat.reduceLT, Nat.reduceLeDiff, reduceIte, Int.reduceNe, Int.reduceBNe, String.reduceBEq, lf], fun _ => by simp only [runR, Nat.reduceAdd, Nat.reduceSub, Int.reduceBEq, Int.reduceEq, Int.reduceLT, Int.reduceLE, Int.reduceNeg, Int.reduceAdd, Int.reduceSub, Int.reduceMul, Int.reduceToNat, Nat.reduceLT, Nat.reduceLeDiff, reduceIte, Int.reduceNe, Int.reduceBNe, String.reduceBEq]⟩
    rintro e s2 ⟨rfl, rfl⟩
    refine ws_ret (we_un ?_)
    refine we_lcM (f := fun l : List Nat => Dt.str (mkS l)) (g := fun _ => Dt.bl true) (l := namesL.filter (fitsC w)) (s0 := s2) (iSeq_L (d := .lst (lvs (namesL.filter (fitsC w)))) (by simp only [runR, Nat.reduceAdd, Nat.reduceSub, Int.reduceBEq, Int.reduceEq, Int.reduceLT, Int.reduceLE, Int.reduceNeg, Int.reduceAdd, Int.reduceSub, Int.reduceMul, Int.reduceToNat, Nat.reduceLT, Nat.reduceLeDiff, reduceIte, Int.reduceNe, Int.reduceBNe, String.reduceBEq]) rfl) rfl ?_ ?_
    · intro n hn
      rw [List.mem_filter] at hn
      have := ev_law_lets (word := "hear") (n := n) (h := h) o1 hd ok.2
      rw [hear_none ok hw hv (List.all_eq_true.mp names_ok n hn.1) hn.2] at this
      exact ⟨_, rfl, rfl, by simp only [runR, Nat.reduceAdd, Nat.reduceSub, Int.reduceBEq, Int.reduceEq, Int.reduceLT, Int.reduceLE, Int.reduceNeg, Int.reduceAdd, Int.reduceSub, Int.reduceMul, Int.reduceToNat, Nat.reduceLT, Nat.reduceLeDiff, reduceIte, Int.reduceNe, Int.reduceBNe, String.reduceBEq, this]⟩
    · refine wo_ok (wo_of (d := .bl true) (s := s2) ?_ ⟨rfl, o1⟩)
      have := dAll_map (q := fun _ : List Nat => true) (l := namesL.filter (fitsC w)) (s := s2)
      rw [this]
      simp
  | some r =>
    obtain ⟨k1, k2, k3, _⟩ := hear_some ok hw hv
    have f1 := ev_law_is_name (TL.joinL [47] r) s1
    have f2 := lf (TL.joinL [47] r)
    have f3 := ev_law_lets (word := "hear") (n := TL.joinL [47] r) (h := h) o1 hd ok.2
    rw [k1] at f1
    rw [k2] at f2
    rw [k3] at f3
    refine ws_step (e := [some d, some (.str (mkS h)), some (.str (mkS w)), some (.str (mkS (TL.joinL [47] r))), none, none]) (s1 := s1) (by unfold u_law_good_2; simp only [runR, Nat.reduceAdd, Nat.reduceSub, Int.reduceBEq, Int.reduceEq, Int.reduceLT, Int.reduceLE, Int.reduceNeg, Int.reduceAdd, Int.reduceSub, Int.reduceMul, Int.reduceToNat, Nat.reduceLT, Nat.reduceLeDiff, reduceIte, Int.reduceNe, Int.reduceBNe, String.reduceBEq, encN]) ?_
    refine ws_step (e := [some d, some (.str (mkS h)), some (.str (mkS w)), some (.str (mkS (TL.joinL [47] r))), none, none]) (s1 := s1) (by unfold u_law_good_3; simp only [runR, Nat.reduceAdd, Nat.reduceSub, Int.reduceBEq, Int.reduceEq, Int.reduceLT, Int.reduceLE, Int.reduceNeg, Int.reduceAdd, Int.reduceSub, Int.reduceMul, Int.reduceToNat, Nat.reduceLT, Nat.reduceLeDiff, reduceIte, Int.reduceNe, Int.reduceBNe, String.reduceBEq, dIsi_str, f1, f2]) ?_
    unfold u_law_good_4
    exact ws_ret (we_ok (d := .bl true) (s1 := s1) (by simp only [runR, Nat.reduceAdd, Nat.reduceSub, Int.reduceBEq, Int.reduceEq, Int.reduceLT, Int.reduceLE, Int.reduceNeg, Int.reduceAdd, Int.reduceSub, Int.reduceMul, Int.reduceToNat, Nat.reduceLT, Nat.reduceLeDiff, reduceIte, Int.reduceNe, Int.reduceBNe, String.reduceBEq, f3]) ⟨rfl, o1⟩)
theorem rep_lst {x : Dt} {k : Nat} {s : Sto} (hk : k ≤ 1000) : dRep nwF (.lst [x]) (.int (k : Int)) s = .ok (.lst (List.replicate k x)) s := by
  have h1 : trkL s (.lst [x]) = some [x] := rfl
  have h2 : ((k : Int) < 1000000 ∧ -1000000 < (k : Int) ∧ [x].length * (k : Int).toNat ≤ sizeLine) := by
    rw [sizeLine_eq]
    refine ⟨by omega, by omega, ?_⟩
    simp
    omega
  have h3 : (List.replicate k [x]).flatten = List.replicate k x := by simp
  unfold dRep
  rw [h1]
  dsimp only
  rw [if_pos h2, Int.toNat_natCast, h3]
  rfl
theorem rep2 {x : Dt} {s : Sto} : dRep nwF (.lst [x]) (.int 2) s = .ok (.lst [x, x]) s := rep_lst (k := 2) (by decide)
theorem rep13 {x : Dt} {s : Sto} : dRep nwF (.lst [x]) (.int 13) s = .ok (.lst (List.replicate 13 x)) s := rep_lst (k := 13) (by decide)
theorem eqB2 (s : Sto) : dEqB s (.lst [refd, refd]) (.lst [refd, refd]) = some true := by
  simp [dEqB, toPyS, toPy, toPys, PyData.depth, PyData.depthAll, PyData.eqv, PyData.eqvAll]
theorem ne2 (s : Sto) : dNe (.lst [refd, refd]) (.lst [refd, refd]) s = .ok (.bl false) s := by unfold dNe; rw [eqB2]; rfl
theorem eq2 (s : Sto) : dEq (.lst [refd, refd]) (.lst [refd, refd]) s = .ok (.bl true) s := by unfold dEq; rw [eqB2]; rfl
theorem law_true (ns : List Int) (hns : ns.length ≤ 63) : ∃ s, m_law [.lsk (ns.map .int)] [] = .ok (.bl true) s := by
  suffices main : WO (m_law [.lsk (ns.map .int)] []) (fun v _ => v = .bl true) noX by
    obtain ⟨d, s, e, rfl⟩ := wo_iff main
    exact ⟨s, e⟩
  unfold m_law b_law
  refine wf_fn ?_
  refine ws_step (by unfold u_law_1; simp only [runR, Nat.reduceAdd, Nat.reduceSub, Int.reduceBEq, Int.reduceEq, Int.reduceLT, Int.reduceLE, Int.reduceNeg, Int.reduceAdd, Int.reduceSub, Int.reduceMul, Int.reduceToNat, Nat.reduceLT, Nat.reduceLeDiff, reduceIte, Int.reduceNe, Int.reduceBNe, String.reduceBEq] <;> exact rfl) ?_
  refine ws_new (s := []) (L := []) own_nil fun s0 o0 => ?_
  have o0 : Own (Tw 0 0 :: []) s0 := own_tw.mpr ⟨0, Nat.le_refl _, o0⟩
  obtain ⟨rs, j, s1, hr6, hrok, e1, o1⟩ := ev_law_rules ns (most := 6) o0 (by omega) (by omega)
  have e1 : m_law_rules [sc ns, .obj 0, .int 6] s0 = .ok (.obj j) s1 := e1
  refine ws_step (by unfold u_law_2; simp only [runR, Nat.reduceAdd, Nat.reduceSub, Int.reduceBEq, Int.reduceEq, Int.reduceLT, Int.reduceLE, Int.reduceNeg, Int.reduceAdd, Int.reduceSub, Int.reduceMul, Int.reduceToNat, Nat.reduceLT, Nat.reduceLeDiff, reduceIte, Int.reduceNe, Int.reduceBNe, String.reduceBEq, e1] <;> exact rfl) ?_
  have okR : RsOk rs := ⟨by omega, hrok⟩
  obtain ⟨x, hx, s2, e2, o2⟩ := ev_pick ns (l := lvs [[104, 49], [104, 50], [104, 52]]) o1 (by omega) (by simp)
  obtain ⟨h, hh0, rfl⟩ := pick_lv hx
  have hh : isHearer h = true := by
    have : ∀ h ∈ ([[104, 49], [104, 50], [104, 52]] : Lv), isHearer h = true := by decide
    exact this h hh0
  simp only [lvs, List.map_cons, List.map_nil] at e2
  have t_h4 : Str.ofString "h4" = mkS [104, 52] := by decide +kernel
  refine ws_step (by unfold u_law_3; simp only [runR, Nat.reduceAdd, Nat.reduceSub, Int.reduceBEq, Int.reduceEq, Int.reduceLT, Int.reduceLE, Int.reduceNeg, Int.reduceAdd, Int.reduceSub, Int.reduceMul, Int.reduceToNat, Nat.reduceLT, Nat.reduceLeDiff, reduceIte, Int.reduceNe, Int.reduceBNe, String.reduceBEq, t_h1, t_h2, t_h4, e2] <;> exact rfl) ?_
  obtain ⟨ws, j2, s3, hw1, hwok, e3, o3⟩ := ev_law_rules ns (most := 1) o2 (by omega) (by omega)
  have e3 : m_law_rules [sc ns, .obj 0, .int 1] s2 = .ok (.obj j2) s3 := e3
  refine ws_step (by unfold u_law_4; simp only [runR, Nat.reduceAdd, Nat.reduceSub, Int.reduceBEq, Int.reduceEq, Int.reduceLT, Int.reduceLE, Int.reduceNeg, Int.reduceAdd, Int.reduceSub, Int.reduceMul, Int.reduceToNat, Nat.reduceLT, Nat.reduceLeDiff, reduceIte, Int.reduceNe, Int.reduceBNe, String.reduceBEq, e3] <;> exact rfl) ?_
  have g3 : s3[j2]? = some (.lst (ws.map Ru.d)) := (Own.at_ (i := j2) o3 (by repeat first | exact Tk.hd | apply Tk.tl))
  refine ws_mid (fun e s' => ∃ w, isWish w = true ∧ e = [some (sc ns), some (.obj 0), some (.obj j), some (.str (mkS h)), some (.str (mkS w)), none, none, none, none, none, none, none] ∧ Own (Tw 0 300 :: At j (.lst (rs.map Ru.d)) :: []) s') ?_ ?_
  · unfold u_law_5
    cases ws with
    | nil =>
      obtain ⟨x, hx, s4, e4, o4⟩ := ev_pick ns (l := lvs [[35], [43], [43, 47, 35], [97, 47, 35], [47, 35]]) o3 (by omega) (by simp)
      obtain ⟨w, hw0, rfl⟩ := pick_lv hx
      have hw : isWish w = true := by
        have : ∀ h ∈ ([[35], [43], [43, 47, 35], [97, 47, 35], [47, 35]] : Lv), isWish h = true := by decide
        exact this w hw0
      simp only [lvs, List.map_cons, List.map_nil] at e4
      have a2 : Str.ofString "a/#" = mkS [97, 47, 35] := by decide +kernel
      have a3 : Str.ofString "/#" = mkS [47, 35] := by decide +kernel
      have a4 : Str.ofString "+/#" = mkS [43, 47, 35] := by decide +kernel
      have o5 : Own (Tw 0 _ :: At j (.lst (rs.map Ru.d)) :: []) s4 := (Own.pm o4 (by repeat first | exact Pm.rfl | (apply Pm.cons; repeat first | exact Tk.hd | apply Tk.tl) | apply Pm.skip))
      rw [List.map_nil] at g3
      refine ws_nx (e := [some (sc ns), some (.obj 0), some (.obj j), some (.str (mkS h)), some (.str (mkS w)), none, none, none, none, none, none, none]) (s1 := s4) ?_ ⟨w, hw, rfl, o5.more (by omega)⟩
      simp only [runR, Nat.reduceAdd, Nat.reduceSub, Int.reduceBEq, Int.reduceEq, Int.reduceLT, Int.reduceLE, Int.reduceNeg, Int.reduceAdd, Int.reduceSub, Int.reduceMul, Int.reduceToNat, Nat.reduceLT, Nat.reduceLeDiff, reduceIte, Int.reduceNe, Int.reduceBNe, String.reduceBEq, g3, t_hash, t_plus, a2, a3, a4, e4]
    | cons r ws' =>
      have o5 : Own (Tw 0 _ :: At j (.lst (rs.map Ru.d)) :: []) s3 := (Own.pm o3 (by repeat first | exact Pm.rfl | (apply Pm.cons; repeat first | exact Tk.hd | apply Tk.tl) | apply Pm.skip))
      rw [List.map_cons] at g3
      refine ws_nx (e := [some (sc ns), some (.obj 0), some (.obj j), some (.str (mkS h)), some (.str (mkS r.w)), none, none, none, none, none, none, none]) (s1 := s3) ?_ ⟨r.w, (hwok r List.mem_cons_self).w, rfl, o5.more (by omega)⟩
      unfold Ru.d at g3
      simp only [runR, Nat.reduceAdd, Nat.reduceSub, Int.reduceBEq, Int.reduceEq, Int.reduceLT, Int.reduceLE, Int.reduceNeg, Int.reduceAdd, Int.reduceSub, Int.reduceMul, Int.reduceToNat, Nat.reduceLT, Nat.reduceLeDiff, reduceIte, Int.reduceNe, Int.reduceBNe, String.reduceBEq, g3]
  rintro e s4 ⟨w, hw, rfl, o4⟩
  have g4 : s4[j]? = some (.lst (rs.map Ru.d)) := (Own.at_ (i := j) o4 (by repeat first | exact Tk.hd | apply Tk.tl))
  have eL : dList nwF (.obj j) s4 = .ok (.lst (rs.map Ru.d)) s4 := by
    unfold dList
    rw [asQ_L (by rw [asL_at, g4])]
    rfl
  refine ws_step (e := [some (sc ns), some (.obj 0), some (.obj j), some (.str (mkS h)), some (.str (mkS w)), some (.lst (rs.map Ru.d)), none, none, none, none, none, none]) (s1 := s4) (by unfold u_law_6; simp only [runR, Nat.reduceAdd, Nat.reduceSub, Int.reduceBEq, Int.reduceEq, Int.reduceLT, Int.reduceLE, Int.reduceNeg, Int.reduceAdd, Int.reduceSub, Int.reduceMul, Int.reduceToNat, Nat.reduceLT, Nat.reduceLeDiff, reduceIte, Int.reduceNe, Int.reduceBNe, String.reduceBEq, eL]) ?_
  obtain ⟨v, s5, e5, rfl, o5⟩ := wo_iff (ev_law_good o4 (Has.lst (l := rs.map Ru.d)) okR hh hw)
  have g5 : s5[j]? = some (.lst (rs.map Ru.d)) := (Own.at_ (i := j) o5 (by repeat first | exact Tk.hd | apply Tk.tl))
  have n5 := ne_rs g5
  refine ws_step (e := [some (sc ns), some (.obj 0), some (.obj j), some (.str (mkS h)), some (.str (mkS w)), some (.lst (rs.map Ru.d)), none, none, none, none, none, none]) (s1 := s5) (by unfold u_law_7; simp only [runR, Nat.reduceAdd, Nat.reduceSub, Int.reduceBEq, Int.reduceEq, Int.reduceLT, Int.reduceLE, Int.reduceNeg, Int.reduceAdd, Int.reduceSub, Int.reduceMul, Int.reduceToNat, Nat.reduceLT, Nat.reduceLeDiff, reduceIte, Int.reduceNe, Int.reduceBNe, String.reduceBEq, e5, n5]) ?_
  refine ws_step (by unfold u_law_8; simp only [runR, Nat.reduceAdd, Nat.reduceSub, Int.reduceBEq, Int.reduceEq, Int.reduceLT, Int.reduceLE, Int.reduceNeg, Int.reduceAdd, Int.reduceSub, Int.reduceMul, Int.reduceToNat, Nat.reduceLT, Nat.reduceLeDiff, reduceIte, Int.reduceNe, Int.reduceBNe, String.reduceBEq, ev_law_names] <;> exact rfl) ?_
  have HR : ∀ N, Has (Tw 0 N :: At j (.lst (rs.map Ru.d)) :: []) (.obj j) (rs.map Ru.d) := fun N => Has.cons _ Has.own
  refine ws_mid (fun e s' => ∃ a b c, e = [some (sc ns), some (.obj 0), some (.obj j), some (.str (mkS h)), some (.str (mkS w)), some (.lst (rs.map Ru.d)), some (.lst (lvs namesL)), a, b, c, none, none] ∧ Own (Tw 0 304 :: At j (.lst (rs.map Ru.d)) :: []) s') ?_ ?_
  · unfold u_law_9
    refine ws_range [7, 8, 9] (fun k xs s' => Own (Tw 0 (300 + k) :: At j (.lst (rs.map Ru.d)) :: []) s') (n := 4) (s0 := s5) (by simp only [runR, Nat.reduceAdd, Nat.reduceSub, Int.reduceBEq, Int.reduceEq, Int.reduceLT, Int.reduceLE, Int.reduceNeg, Int.reduceAdd, Int.reduceSub, Int.reduceMul, Int.reduceToNat, Nat.reduceLT, Nat.reduceLeDiff, reduceIte, Int.reduceNe, Int.reduceBNe, String.reduceBEq] <;> exact rfl) (by omega) rfl o5 ?_ ?_
    · rintro k xs s' hk hx oo
      obtain ⟨a, b, c, rfl⟩ : ∃ a b c, xs = [a, b, c] := by
        match xs, hx with
        | [a, b, c], _ => exact ⟨a, b, c, rfl⟩
      refine ⟨_, rfl, ?_⟩
      unfold l_law_1
      have npos := List.length_pos_iff.mpr names_ne
      obtain ⟨v, hv, s6, e6, o6⟩ := ev_draw ns (many := (namesL.length : Int)) oo (by omega) (by omega)
      have hv2 : v < namesL.length := by omega
      obtain ⟨n, hn, ix⟩ : ∃ n ∈ namesL, atI (lvs namesL) (v : Int) = some (.str (mkS n)) := by
        refine ⟨namesL[v], List.getElem_mem hv2, ?_⟩
        rw [atI_ofNat]
        unfold lvs
        rw [List.getElem?_map, List.getElem?_eq_getElem hv2]
        rfl
      have hn := List.all_eq_true.mp names_ok n hn
      refine ws_step (e := [some (sc ns), some (.obj 0), some (.obj j), some (.str (mkS h)), some (.str (mkS w)), some (.lst (rs.map Ru.d)), some (.lst (lvs namesL)), some (.int k), some (.str (mkS n)), c, none, none]) (s1 := s6) (by unfold w_law_1; simp only [runR, Nat.reduceAdd, Nat.reduceSub, Int.reduceBEq, Int.reduceEq, Int.reduceLT, Int.reduceLE, Int.reduceNeg, Int.reduceAdd, Int.reduceSub, Int.reduceMul, Int.reduceToNat, Nat.reduceLT, Nat.reduceLeDiff, reduceIte, Int.reduceNe, Int.reduceBNe, String.reduceBEq, lvs_len, e6, ix]) ?_
      have es := told_say (ev_may_say (n := n) o6 (HR _) okR hh hn)
      have el := ev_law_lets (word := "say") (n := n) (h := h) o6 (HR _) okR.2
      refine ws_step (e := [some (sc ns), some (.obj 0), some (.obj j), some (.str (mkS h)), some (.str (mkS w)), some (.lst (rs.map Ru.d)), some (.lst (lvs namesL)), some (.int k), some (.str (mkS n)), some (.bl (letC (rulO rs h "say") n)), none, none]) (s1 := s6) (by unfold w_law_2; simp only [runR, Nat.reduceAdd, Nat.reduceSub, Int.reduceBEq, Int.reduceEq, Int.reduceLT, Int.reduceLE, Int.reduceNeg, Int.reduceAdd, Int.reduceSub, Int.reduceMul, Int.reduceToNat, Nat.reduceLT, Nat.reduceLeDiff, reduceIte, Int.reduceNe, Int.reduceBNe, String.reduceBEq, es]) ?_
      refine ws_nx (e := [some (sc ns), some (.obj 0), some (.obj j), some (.str (mkS h)), some (.str (mkS w)), some (.lst (rs.map Ru.d)), some (.lst (lvs namesL)), some (.int k), some (.str (mkS n)), some (.bl (letC (rulO rs h "say") n)), none, none]) (s1 := s6) ?_ ⟨[_, _, _], rfl, rfl, o6⟩
      unfold w_law_3
      simp only [runR, Nat.reduceAdd, Nat.reduceSub, Int.reduceBEq, Int.reduceEq, Int.reduceLT, Int.reduceLE, Int.reduceNeg, Int.reduceAdd, Int.reduceSub, Int.reduceMul, Int.reduceToNat, Nat.reduceLT, Nat.reduceLeDiff, reduceIte, Int.reduceNe, Int.reduceBNe, String.reduceBEq, dIsi_bl, el, dNe_bl', beq_self_eq_true, Bool.not_true]
    · rintro xs s' hx oo
      obtain ⟨a, b, c, rfl⟩ : ∃ a b c, xs = [a, b, c] := by
        match xs, hx with
        | [a, b, c], _ => exact ⟨a, b, c, rfl⟩
      exact ⟨a, b, c, rfl, oo⟩
  rintro e s6 ⟨a, b, c, rfl, o6⟩
  have t_H : Str.ofString "H" = mkS [72] := by decide +kernel
  have t_ah : Str.ofString "a#" = mkS [97, 35] := by decide +kernel
  refine ws_step (e := [some (sc ns), some (.obj 0), some (.obj j), some (.str (mkS h)), some (.str (mkS w)), some (.lst (rs.map Ru.d)), some (.lst (lvs namesL)), a, b, c, some (.lst badD), none]) (s1 := s6) (by unfold u_law_10 badD; simp only [runR, Nat.reduceAdd, Nat.reduceSub, Int.reduceBEq, Int.reduceEq, Int.reduceLT, Int.reduceLE, Int.reduceNeg, Int.reduceAdd, Int.reduceSub, Int.reduceMul, Int.reduceToNat, Nat.reduceLT, Nat.reduceLeDiff, reduceIte, Int.reduceNe, Int.reduceBNe, String.reduceBEq, t_nil, t_hash, t_H, t_ah]) ?_
  obtain ⟨v, hv, s7, e7, o7⟩ := ev_draw ns (many := 4) o6 (by omega) (by decide)
  obtain ⟨bd, hbd, ixb⟩ : ∃ bd ∈ badD, atI badD (v : Int) = some bd := by
    have hv2 : v < badD.length := by show v < 4; omega
    refine ⟨badD[v], List.getElem_mem hv2, ?_⟩
    rw [atI_ofNat, List.getElem?_eq_getElem hv2]
  have g7 : s7[j]? = some (.lst (rs.map Ru.d)) := (Own.at_ (i := j) o7 (by repeat first | exact Tk.hd | apply Tk.tl))
  have ad : dAdd nwF (.obj j) (.lst [bd]) s7 = .ok (.lst (rs.map Ru.d ++ [bd])) s7 := by
    rw [dAdd_any (l := rs.map Ru.d) (m := [bd]) (by rw [trkL_at, g7]) rfl (by rw [List.length_map]; simp; omega)]
    rfl
  refine ws_step (e := [some (sc ns), some (.obj 0), some (.obj j), some (.str (mkS h)), some (.str (mkS w)), some (.lst (rs.map Ru.d)), some (.lst (lvs namesL)), a, b, c, some (.lst (rs.map Ru.d ++ [bd])), none]) (s1 := s7) (by unfold u_law_11; simp only [runR, Nat.reduceAdd, Nat.reduceSub, Int.reduceBEq, Int.reduceEq, Int.reduceLT, Int.reduceLE, Int.reduceNeg, Int.reduceAdd, Int.reduceSub, Int.reduceMul, Int.reduceToNat, Nat.reduceLT, Nat.reduceLeDiff, reduceIte, Int.reduceNe, Int.reduceBNe, String.reduceBEq, e7, ixb, ad]) ?_
  refine ws_mid (fun e s' => ∃ l, m_look_rules [.lst l] s' = .exc 2 s' ∧ e = [some (sc ns), some (.obj 0), some (.obj j), some (.str (mkS h)), some (.str (mkS w)), some (.lst (rs.map Ru.d)), some (.lst (lvs namesL)), a, b, c, some (.lst l), none] ∧ Own (Tw 0 306 :: At j (.lst (rs.map Ru.d)) :: []) s') ?_ ?_
  · obtain ⟨v2, hv2, s8, e8, o8⟩ := ev_draw ns (many := 3) o7 (by omega) (by decide)
    unfold u_law_12
    by_cases hz : v2 = 0
    · subst hz
      refine ws_nx (e := [some (sc ns), some (.obj 0), some (.obj j), some (.str (mkS h)), some (.str (mkS w)), some (.lst (rs.map Ru.d)), some (.lst (lvs namesL)), a, b, c, some (.lst (List.replicate 13 (.tup [.bl true, .str (Str.ofString ""), .str (Str.ofString "both"), .str (Str.ofString "#")]))), none]) (s1 := s8) ?_ ⟨_, no_look13 o8 Has.lst (by simp), rfl, o8⟩
      simp only [runR, Nat.reduceAdd, Nat.reduceSub, Int.reduceBEq, Int.reduceEq, Int.reduceLT, Int.reduceLE, Int.reduceNeg, Int.reduceAdd, Int.reduceSub, Int.reduceMul, Int.reduceToNat, Nat.reduceLT, Nat.reduceLeDiff, reduceIte, Int.reduceNe, Int.reduceBNe, String.reduceBEq, e8, Int.ofNat_zero, rep13]
    · have hz' : ((v2 : Int) == 0) = false := by rw [beq_eq_false_iff_ne]; omega
      refine ws_nx (e := [some (sc ns), some (.obj 0), some (.obj j), some (.str (mkS h)), some (.str (mkS w)), some (.lst (rs.map Ru.d)), some (.lst (lvs namesL)), a, b, c, some (.lst (rs.map Ru.d ++ [bd])), none]) (s1 := s8) ?_ ⟨_, no_look_rules o8 Has.lst okR (by omega) hbd, rfl, o8⟩
      simp only [runR, Nat.reduceAdd, Nat.reduceSub, Int.reduceBEq, Int.reduceEq, Int.reduceLT, Int.reduceLE, Int.reduceNeg, Int.reduceAdd, Int.reduceSub, Int.reduceMul, Int.reduceToNat, Nat.reduceLT, Nat.reduceLeDiff, reduceIte, Int.reduceNe, Int.reduceBNe, String.reduceBEq, e8, hz']
  rintro e s8 ⟨l, hl, rfl, o8⟩
  have two : ∀ i ∈ List.range 2, i = 0 ∨ i = 1 := by decide
  have hi : ∀ env, iRange (eC (.int 2)) env s8 = .ok ((List.range 2).map (fun i : Nat => Dt.int (i : Int)), fun _ => True) s8 := fun env => rfl
  have aN : isName [97] = true := by decide
  have b1 := told_say_no (no_say (h := h) (n := [97]) (.inl hl))
  have b2 := told_hear_no (no_hear (h := h) (w := [97]) (.inl hl))
  refine ws_mid (fun e s' => e = [some (sc ns), some (.obj 0), some (.obj j), some (.str (mkS h)), some (.str (mkS w)), some (.lst (rs.map Ru.d)), some (.lst (lvs namesL)), a, b, c, some (.lst l), none] ∧ s' = s8) ?_ ?_
  · unfold u_law_13
    refine ws_if (wt_bl (we_op ?_))
    refine we_lcM (f := fun i : Nat => Dt.int (i : Int)) (g := fun _ => refd) (l := List.range 2) (s0 := s8) (hi _) trivial ?_ ?_
    · intro i hi
      refine ⟨_, rfl, rfl, ?_⟩
      rcases two i hi with rfl | rfl
      · simp only [runR, Nat.reduceAdd, Nat.reduceSub, Int.reduceBEq, Int.reduceEq, Int.reduceLT, Int.reduceLE, Int.reduceNeg, Int.reduceAdd, Int.reduceSub, Int.reduceMul, Int.reduceToNat, Nat.reduceLT, Nat.reduceLeDiff, reduceIte, Int.reduceNe, Int.reduceBNe, String.reduceBEq, Int.ofNat_zero, t_a, b1]
      · simp only [runR, Nat.reduceAdd, Nat.reduceSub, Int.reduceBEq, Int.reduceEq, Int.reduceLT, Int.reduceLE, Int.reduceNeg, Int.reduceAdd, Int.reduceSub, Int.reduceMul, Int.reduceToNat, Nat.reduceLT, Nat.reduceLeDiff, reduceIte, Int.reduceNe, Int.reduceBNe, String.reduceBEq, Int.natCast_one, t_a, b2]
    · exact wo_ok (we_ok (d := .lst [refd, refd]) (s1 := s8) (by simp only [runR, Nat.reduceAdd, Nat.reduceSub, Int.reduceBEq, Int.reduceEq, Int.reduceLT, Int.reduceLE, Int.reduceNeg, Int.reduceAdd, Int.reduceSub, Int.reduceMul, Int.reduceToNat, Nat.reduceLT, Nat.reduceLeDiff, reduceIte, Int.reduceNe, Int.reduceBNe, String.reduceBEq, rep2]) (wo_of (d := .bl false) (s := s8) (ne2 s8) ⟨false, rfl, ws_next ⟨rfl, rfl⟩⟩))
  rintro e s9 ⟨rfl, rfl⟩
  have lk := ev_look_rules o8 (HR _) okR
  have hE : isHearer [] = false := by decide
  have h1H : isHearer [104, 49] = true := by decide
  have c1 := told_say_no (no_say (h := []) (n := [97]) (.inr ⟨lk, .inl hE⟩))
  have c2 := told_hear_no (no_hear (h := []) (w := [97]) (.inr ⟨lk, .inl hE⟩))
  refine ws_mid (fun e s' => e = [some (sc ns), some (.obj 0), some (.obj j), some (.str (mkS h)), some (.str (mkS w)), some (.lst (rs.map Ru.d)), some (.lst (lvs namesL)), a, b, c, some (.lst l), none] ∧ s' = s9) ?_ ?_
  · unfold u_law_14
    refine ws_if (wt_bl (we_op ?_))
    refine we_lcM (f := fun i : Nat => Dt.int (i : Int)) (g := fun _ => refd) (l := List.range 2) (s0 := s9) (hi _) trivial ?_ ?_
    · intro i hi
      refine ⟨_, rfl, rfl, ?_⟩
      rcases two i hi with rfl | rfl
      · simp only [runR, Nat.reduceAdd, Nat.reduceSub, Int.reduceBEq, Int.reduceEq, Int.reduceLT, Int.reduceLE, Int.reduceNeg, Int.reduceAdd, Int.reduceSub, Int.reduceMul, Int.reduceToNat, Nat.reduceLT, Nat.reduceLeDiff, reduceIte, Int.reduceNe, Int.reduceBNe, String.reduceBEq, Int.ofNat_zero, t_a, t_nil, c1]
      · simp only [runR, Nat.reduceAdd, Nat.reduceSub, Int.reduceBEq, Int.reduceEq, Int.reduceLT, Int.reduceLE, Int.reduceNeg, Int.reduceAdd, Int.reduceSub, Int.reduceMul, Int.reduceToNat, Nat.reduceLT, Nat.reduceLeDiff, reduceIte, Int.reduceNe, Int.reduceBNe, String.reduceBEq, Int.natCast_one, t_a, t_nil, c2]
    · exact wo_ok (we_ok (d := .lst [refd, refd]) (s1 := s9) (by simp only [runR, Nat.reduceAdd, Nat.reduceSub, Int.reduceBEq, Int.reduceEq, Int.reduceLT, Int.reduceLE, Int.reduceNeg, Int.reduceAdd, Int.reduceSub, Int.reduceMul, Int.reduceToNat, Nat.reduceLT, Nat.reduceLeDiff, reduceIte, Int.reduceNe, Int.reduceBNe, String.reduceBEq, rep2]) (wo_of (d := .bl false) (s := s9) (ne2 s9) ⟨false, rfl, ws_next ⟨rfl, rfl⟩⟩))
  rintro e s10 ⟨rfl, rfl⟩
  have t_ap : Str.ofString "a/+" = mkS [97, 47, 43] := by decide +kernel
  have t_a1 : Str.ofString "a+" = mkS [97, 43] := by decide +kernel
  have d1 := told_say_no (no_say (h := [104, 49]) (n := [97, 47, 43]) (.inr ⟨lk, .inr ⟨h1H, by decide⟩⟩))
  have d2 := told_hear_no (no_hear (h := [104, 49]) (w := [97, 43]) (.inr ⟨lk, .inr ⟨h1H, by decide⟩⟩))
  unfold u_law_15
  refine ws_ret (we_op ?_)
  refine we_lcM (f := fun i : Nat => Dt.int (i : Int)) (g := fun _ => refd) (l := List.range 2) (s0 := s10) (hi _) trivial ?_ ?_
  · intro i hi
    refine ⟨_, rfl, rfl, ?_⟩
    rcases two i hi with rfl | rfl
    · simp only [runR, Nat.reduceAdd, Nat.reduceSub, Int.reduceBEq, Int.reduceEq, Int.reduceLT, Int.reduceLE, Int.reduceNeg, Int.reduceAdd, Int.reduceSub, Int.reduceMul, Int.reduceToNat, Nat.reduceLT, Nat.reduceLeDiff, reduceIte, Int.reduceNe, Int.reduceBNe, String.reduceBEq, Int.ofNat_zero, t_ap, t_a1, t_h1, d1]
    · simp only [runR, Nat.reduceAdd, Nat.reduceSub, Int.reduceBEq, Int.reduceEq, Int.reduceLT, Int.reduceLE, Int.reduceNeg, Int.reduceAdd, Int.reduceSub, Int.reduceMul, Int.reduceToNat, Nat.reduceLT, Nat.reduceLeDiff, reduceIte, Int.reduceNe, Int.reduceBNe, String.reduceBEq, Int.natCast_one, t_ap, t_a1, t_h1, d2]
  · exact wo_ok (we_ok (d := .lst [refd, refd]) (s1 := s10) (by simp only [runR, Nat.reduceAdd, Nat.reduceSub, Int.reduceBEq, Int.reduceEq, Int.reduceLT, Int.reduceLE, Int.reduceNeg, Int.reduceAdd, Int.reduceSub, Int.reduceMul, Int.reduceToNat, Nat.reduceLT, Nat.reduceLeDiff, reduceIte, Int.reduceNe, Int.reduceBNe, String.reduceBEq, rep2]) (wo_of (d := .bl true) (s := s10) (eq2 s10) rfl))
end Tx
open PySem PySem.W PyProof.Rows
set_option maxRecDepth 100000 in
set_option maxHeartbeats 0 in
theorem PySem.Challenge.cw_tidinghall_k40_whole_rules_holds : PySem.Challenge.rw_tidinghall_k40_whole_rules.Holds := by
  w_on; o_law; k_head; (case hw => w_witness2)
  k_fill
  refine Tx.walk Tx.law_true (l := PySem.Challenge.rw_tidinghall_k40_whole_rules) rfl rfl (fun w h Y => PySem.W.kIn_of Y) ?F
  case F =>
    intro w mg fa h KX G hmg
    refine' Tx.all_mk KX G hmg ?aC_Search ?kC_Search ?aC_TidingError ?kC_TidingError ?aC_BadName ?kC_BadName ?aC_BadPacket ?kC_BadPacket ?aC_BadBytes ?kC_BadBytes ?aC_BadLine ?kC_BadLine ?aC_BadText ?kC_BadText ?a_is_level ?l_is_level ?c_is_level ?k_is_level ?a_look_hearer ?l_look_hearer ?c_look_hearer ?k_look_hearer ?a_is_wide ?l_is_wide ?c_is_wide ?k_is_wide ?a_rules_of ?l_rules_of ?c_rules_of ?k_rules_of ?a_is_let_here ?l_is_let_here ?c_is_let_here ?k_is_let_here ?a_Search_init ?i_Search_init ?l_Search_init ?c_Search_init ?k_Search_init ?a_law_cell ?l_law_cell ?c_law_cell ?k_law_cell ?a_law_refusal ?l_law_refusal ?c_law_refusal ?k_law_refusal ?a_law_is_level ?l_law_is_level ?c_law_is_level ?k_law_is_level ?a_law_fits ?l_law_fits ?c_law_fits ?k_law_fits ?a_law_names ?l_law_names ?c_law_names ?k_law_names ?a_look_name ?l_look_name ?c_look_name ?k_look_name ?a_look_wish ?l_look_wish ?c_look_wish ?k_look_wish ?a_stepped ?l_stepped ?c_stepped ?k_stepped ?a_choices ?l_choices ?c_choices ?k_choices ?a_law_mix ?l_law_mix ?c_law_mix ?k_law_mix ?a_law_is_name ?l_law_is_name ?c_law_is_name ?k_law_is_name ?a_law_lets ?l_law_lets ?c_law_lets ?k_law_lets ?a_Search_found ?i_Search_found ?l_Search_found ?c_Search_found ?k_Search_found ?a_look_rules ?l_look_rules ?c_look_rules ?k_look_rules ?a_law_draw ?l_law_draw ?c_law_draw ?k_law_draw ?a_law_pick ?l_law_pick ?c_law_pick ?k_law_pick ?a_law_rules ?l_law_rules ?c_law_rules ?k_law_rules ?a_fits_levels ?l_fits_levels ?c_fits_levels ?k_fits_levels ?a_fits ?l_fits ?c_fits ?k_fits ?a_may_say ?l_may_say ?c_may_say ?k_may_say ?a_Search_go ?i_Search_go ?l_Search_go ?c_Search_go ?k_Search_go ?a_may_hear ?l_may_hear ?c_may_hear ?k_may_hear ?a_law_told ?l_law_told ?c_law_told ?k_law_told ?a_law_good ?l_law_good ?c_law_good ?k_law_good ?a_law ?l_law ?c_law ?k_law ?pg_Search ?hd_Search ?po_Search ?sa_Search ?mk_Search ?n_Search_known ?x_TidingError ?b_TidingError ?t_TidingError ?x_BadName ?b_BadName ?t_BadName ?x_BadPacket ?b_BadPacket ?t_BadPacket ?x_BadBytes ?b_BadBytes ?t_BadBytes ?x_BadLine ?b_BadLine ?t_BadLine ?x_BadText ?b_BadText ?t_BadText ?zm_TidingError_TidingError ?zm_BadName_TidingError ?zm_BadPacket_TidingError ?zm_BadBytes_TidingError ?zm_BadLine_TidingError ?zm_BadText_TidingError ?hn0 ?ht0 ?e1_TidingError ?e2_TidingError ?e3_TidingError ?e4_TidingError ?e5_TidingError ?e1_BadName ?e2_BadName ?e3_BadName ?e4_BadName ?e5_BadName ?e1_BadPacket ?e2_BadPacket ?e3_BadPacket ?e4_BadPacket ?e5_BadPacket ?e1_BadBytes ?e2_BadBytes ?e3_BadBytes ?e4_BadBytes ?e5_BadBytes ?e1_BadLine ?e2_BadLine ?e3_BadLine ?e4_BadLine ?e5_BadLine ?e1_BadText ?e2_BadText ?e3_BadText ?e4_BadText ?e5_BadText ?zk_TidingError_BadName ?zk_BadName_BadName ?zk_BadPacket_BadName ?zk_BadBytes_BadName ?zk_BadLine_BadName ?zk_BadText_BadName ?zk_TidingError_BadPacket ?zk_BadName_BadPacket ?zk_BadPacket_BadPacket ?zk_BadBytes_BadPacket ?zk_BadLine_BadPacket ?zk_BadText_BadPacket ?zk_TidingError_BadBytes ?zk_BadName_BadBytes ?zk_BadPacket_BadBytes ?zk_BadBytes_BadBytes ?zk_BadLine_BadBytes ?zk_BadText_BadBytes ?zk_TidingError_BadLine ?zk_BadName_BadLine ?zk_BadPacket_BadLine ?zk_BadBytes_BadLine ?zk_BadLine_BadLine ?zk_BadText_BadLine ?zk_TidingError_BadText ?zk_BadName_BadText ?zk_BadPacket_BadText ?zk_BadBytes_BadText ?zk_BadLine_BadText ?zk_BadText_BadText ?zk_TidingError_ValueError ?zk_BadName_ValueError ?zk_BadPacket_ValueError ?zk_BadBytes_ValueError ?zk_BadLine_ValueError ?zk_BadText_ValueError ?n_ValueError ?n_all ?n_bool ?n_isinstance ?n_len ?n_list ?n_ord ?n_range ?n_set ?n_sorted ?n_str ?n_tuple ?v_MOST_LEVELS ?v_MOST_SIGNS ?v_SMALL ?v_MOST_RULES ?v_FRESH
    (case aC_Search => k_is)
    (case kC_Search => k_is)
    (case aC_TidingError => k_is)
    (case kC_TidingError => k_is)
    (case aC_BadName => k_is)
    (case kC_BadName => k_is)
    (case aC_BadPacket => k_is)
    (case kC_BadPacket => k_is)
    (case aC_BadBytes => k_is)
    (case kC_BadBytes => k_is)
    (case aC_BadLine => k_is)
    (case kC_BadLine => k_is)
    (case aC_BadText => k_is)
    (case kC_BadText => k_is)
    (case a_is_level => k_is)
    (case l_is_level => k_is)
    (case c_is_level => k_is)
    (case k_is_level => k_is)
    (case a_look_hearer => k_is)
    (case l_look_hearer => k_is)
    (case c_look_hearer => k_is)
    (case k_look_hearer => k_is)
    (case a_is_wide => k_is)
    (case l_is_wide => k_is)
    (case c_is_wide => k_is)
    (case k_is_wide => k_is)
    (case a_rules_of => k_is)
    (case l_rules_of => k_is)
    (case c_rules_of => k_is)
    (case k_rules_of => k_is)
    (case a_is_let_here => k_is)
    (case l_is_let_here => k_is)
    (case c_is_let_here => k_is)
    (case k_is_let_here => k_is)
    (case a_Search_init => k_is)
    (case i_Search_init => k_is)
    (case l_Search_init => k_is)
    (case c_Search_init => k_is)
    (case k_Search_init => k_is)
    (case a_law_cell => k_is)
    (case l_law_cell => k_is)
    (case c_law_cell => k_is)
    (case k_law_cell => k_is)
    (case a_law_refusal => k_is)
    (case l_law_refusal => k_is)
    (case c_law_refusal => k_is)
    (case k_law_refusal => k_is)
    (case a_law_is_level => k_is)
    (case l_law_is_level => k_is)
    (case c_law_is_level => k_is)
    (case k_law_is_level => k_is)
    (case a_law_fits => k_is)
    (case l_law_fits => k_is)
    (case c_law_fits => k_is)
    (case k_law_fits => k_is)
    (case a_law_names => k_is)
    (case l_law_names => k_is)
    (case c_law_names => k_is)
    (case k_law_names => k_is)
    (case a_look_name => k_is)
    (case l_look_name => k_is)
    (case c_look_name => k_is)
    (case k_look_name => k_is)
    (case a_look_wish => k_is)
    (case l_look_wish => k_is)
    (case c_look_wish => k_is)
    (case k_look_wish => k_is)
    (case a_stepped => k_is)
    (case l_stepped => k_is)
    (case c_stepped => k_is)
    (case k_stepped => k_is)
    (case a_choices => k_is)
    (case l_choices => k_is)
    (case c_choices => k_is)
    (case k_choices => k_is)
    (case a_law_mix => k_is)
    (case l_law_mix => k_is)
    (case c_law_mix => k_is)
    (case k_law_mix => k_is)
    (case a_law_is_name => k_is)
    (case l_law_is_name => k_is)
    (case c_law_is_name => k_is)
    (case k_law_is_name => k_is)
    (case a_law_lets => k_is)
    (case l_law_lets => k_is)
    (case c_law_lets => k_is)
    (case k_law_lets => k_is)
    (case a_Search_found => k_is)
    (case i_Search_found => k_is)
    (case l_Search_found => k_is)
    (case c_Search_found => k_is)
    (case k_Search_found => k_is)
    (case a_look_rules => k_is)
    (case l_look_rules => k_is)
    (case c_look_rules => k_is)
    (case k_look_rules => k_is)
    (case a_law_draw => k_is)
    (case l_law_draw => k_is)
    (case c_law_draw => k_is)
    (case k_law_draw => k_is)
    (case a_law_pick => k_is)
    (case l_law_pick => k_is)
    (case c_law_pick => k_is)
    (case k_law_pick => k_is)
    (case a_law_rules => k_is)
    (case l_law_rules => k_is)
    (case c_law_rules => k_is)
    (case k_law_rules => k_is)
    (case a_fits_levels => k_is)
    (case l_fits_levels => k_is)
    (case c_fits_levels => k_is)
    (case k_fits_levels => k_is)
    (case a_fits => k_is)
    (case l_fits => k_is)
    (case c_fits => k_is)
    (case k_fits => k_is)
    (case a_may_say => k_is)
    (case l_may_say => k_is)
    (case c_may_say => k_is)
    (case k_may_say => k_is)
    (case a_Search_go => k_is)
    (case i_Search_go => k_is)
    (case l_Search_go => k_is)
    (case c_Search_go => k_is)
    (case k_Search_go => k_is)
    (case a_may_hear => k_is)
    (case l_may_hear => k_is)
    (case c_may_hear => k_is)
    (case k_may_hear => k_is)
    (case a_law_told => k_is)
    (case l_law_told => k_is)
    (case c_law_told => k_is)
    (case k_law_told => k_is)
    (case a_law_good => k_is)
    (case l_law_good => k_is)
    (case c_law_good => k_is)
    (case k_law_good => k_is)
    (case a_law => k_is)
    (case l_law => k_is)
    (case c_law => k_is)
    (case k_law => k_is)
    (case pg_Search => k_is)
    (case hd_Search => k_is)
    (case po_Search => k_is)
    (case sa_Search => k_is)
    (case mk_Search => k_is)
    (case n_Search_known => k_is)
    (case x_TidingError => k_exc)
    (case b_TidingError => k_is)
    (case t_TidingError => k_is)
    (case x_BadName => k_exc)
    (case b_BadName => k_is)
    (case t_BadName => k_is)
    (case x_BadPacket => k_exc)
    (case b_BadPacket => k_is)
    (case t_BadPacket => k_is)
    (case x_BadBytes => k_exc)
    (case b_BadBytes => k_is)
    (case t_BadBytes => k_is)
    (case x_BadLine => k_exc)
    (case b_BadLine => k_is)
    (case t_BadLine => k_is)
    (case x_BadText => k_exc)
    (case b_BadText => k_is)
    (case t_BadText => k_is)
    (case zm_TidingError_TidingError => kts_exm)
    (case zm_BadName_TidingError => kts_exm)
    (case zm_BadPacket_TidingError => kts_exm)
    (case zm_BadBytes_TidingError => kts_exm)
    (case zm_BadLine_TidingError => kts_exm)
    (case zm_BadText_TidingError => kts_exm)
    (case hn0 => k_is)
    (case ht0 => k_is)
    (case e1_TidingError => k_is)
    (case e2_TidingError => k_is)
    (case e3_TidingError => k_is)
    (case e4_TidingError => k_is)
    (case e5_TidingError => k_is)
    (case e1_BadName => k_is)
    (case e2_BadName => k_is)
    (case e3_BadName => k_is)
    (case e4_BadName => k_is)
    (case e5_BadName => k_is)
    (case e1_BadPacket => k_is)
    (case e2_BadPacket => k_is)
    (case e3_BadPacket => k_is)
    (case e4_BadPacket => k_is)
    (case e5_BadPacket => k_is)
    (case e1_BadBytes => k_is)
    (case e2_BadBytes => k_is)
    (case e3_BadBytes => k_is)
    (case e4_BadBytes => k_is)
    (case e5_BadBytes => k_is)
    (case e1_BadLine => k_is)
    (case e2_BadLine => k_is)
    (case e3_BadLine => k_is)
    (case e4_BadLine => k_is)
    (case e5_BadLine => k_is)
    (case e1_BadText => k_is)
    (case e2_BadText => k_is)
    (case e3_BadText => k_is)
    (case e4_BadText => k_is)
    (case e5_BadText => k_is)
    (case zk_TidingError_BadName => kit_is)
    (case zk_BadName_BadName => kit_is)
    (case zk_BadPacket_BadName => kit_is)
    (case zk_BadBytes_BadName => kit_is)
    (case zk_BadLine_BadName => kit_is)
    (case zk_BadText_BadName => kit_is)
    (case zk_TidingError_BadPacket => kit_is)
    (case zk_BadName_BadPacket => kit_is)
    (case zk_BadPacket_BadPacket => kit_is)
    (case zk_BadBytes_BadPacket => kit_is)
    (case zk_BadLine_BadPacket => kit_is)
    (case zk_BadText_BadPacket => kit_is)
    (case zk_TidingError_BadBytes => kit_is)
    (case zk_BadName_BadBytes => kit_is)
    (case zk_BadPacket_BadBytes => kit_is)
    (case zk_BadBytes_BadBytes => kit_is)
    (case zk_BadLine_BadBytes => kit_is)
    (case zk_BadText_BadBytes => kit_is)
    (case zk_TidingError_BadLine => kit_is)
    (case zk_BadName_BadLine => kit_is)
    (case zk_BadPacket_BadLine => kit_is)
    (case zk_BadBytes_BadLine => kit_is)
    (case zk_BadLine_BadLine => kit_is)
    (case zk_BadText_BadLine => kit_is)
    (case zk_TidingError_BadText => kit_is)
    (case zk_BadName_BadText => kit_is)
    (case zk_BadPacket_BadText => kit_is)
    (case zk_BadBytes_BadText => kit_is)
    (case zk_BadLine_BadText => kit_is)
    (case zk_BadText_BadText => kit_is)
    (case zk_TidingError_ValueError => kit_is)
    (case zk_BadName_ValueError => kit_is)
    (case zk_BadPacket_ValueError => kit_is)
    (case zk_BadBytes_ValueError => kit_is)
    (case zk_BadLine_ValueError => kit_is)
    (case zk_BadText_ValueError => kit_is)
    (case n_ValueError => k_is)
    (case n_all => k_is)
    (case n_bool => k_is)
    (case n_isinstance => k_is)
    (case n_len => k_is)
    (case n_list => k_is)
    (case n_ord => k_is)
    (case n_range => k_is)
    (case n_set => k_is)
    (case n_sorted => k_is)
    (case n_str => k_is)
    (case n_tuple => k_is)
    (case v_MOST_LEVELS => k_is)
    (case v_MOST_SIGNS => k_is)
    (case v_SMALL => k_is)
    (case v_MOST_RULES => k_is)
    (case v_FRESH => k_is)
