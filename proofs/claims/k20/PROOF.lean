import PyProof.Rows.All
import Wide.All
import OpenK.AllK
import Wide.FinOn
import HandS.ForMost
import HandS.ForExc
import KE.KeyNested
import HandS.Flow
import HandS.TupAny
import HandS.Deep
import HandS.TupLen
import HandS.ExcCtx
import HandS.SetFor
import HandS.IsInst
import HandS.ExcIs
import HandS.SuiteRaise
import HandS.RaiseFrom
import KE.RegKIsAll
import KE.RegKTryMore
import HandS.DictTup
import PyProof.DictMoreH
import KE.KDictWalk
import HandS.Conv
import PyProof.StrOps2
import HandS.TupMul
import HandS.NoneIn
import HandS.SortInts
import PyProof.Rows.SortKeyStr
import PyProof.Rows.SortStr
import KE.KDictSum
import KE.KDictList
import HandS.Strs
import HandS.Style
import HandS.WrittenGet
import HandS.TryOnly
import HandS.HeadHook3
import HandS.Text
import PySem.Challenge.RW_tidinghall_k20_whole_packets
set_option Elab.async false
set_option linter.all false
set_option autoImplicit false
set_option maxRecDepth 100000
set_option maxHeartbeats 4000000
/-! A layer of values over the hand layer: data that never changes is a plain value (Dt), what changes stands in a store (Mo) by number. -/
namespace Pd
open PySem L2
inductive Dt where
  | non | bl (b : Bool) | int (i : Int) | str (x : Str) | tup (l : List Dt) | lst (l : List Dt) | lsk (l : List Dt) | obj (i : Nat) | exc (c : Nat)
inductive Mo where
  | lst (l : List Dt) | ins (c : Nat) (fs : List Dt) | dic (kvs : List (Key × Dt)) | dit (kvs : List (List Key × Dt)) | dicL (kvs : List (Key × Dt)) | ditL (kvs : List (List Key × Dt)) | did (kvs : List (NestedKey × Dt))
abbrev Sto := List Mo
inductive Out (α : Type) where
  | ok (a : α) (s : Sto) | exc (c : Nat) (s : Sto) | bad
/-- the classes by number: name, attributes in the order of their first store -/
abbrev Cn := Nat → Str × List Str
structure Wd where
  K : PySem.W.Frag
  mg : Str → Option Value
  J : Cn
  w : World
abbrev Wd.cl (Γ : Wd) (c : Nat) (C : Addr) : Prop := Γ.mg (Γ.J c).1 = some (.ref C)
def ExH (C : Addr) (a : Addr) : HO := .ext fun h => ∃ (oe : Obj) (vs : Array Value), h.get? a = some oe ∧ Zc (.ref C) none oe ∧ oe.data = .fields vs
/-- a dict with deep keys, by its one object -/
def NdO (w : World) (a : Addr) (es : List (NestedKey × Addr × Value)) : HO := .ext fun h => ∃ (ob : Obj) (ents : Array DictEntry) (ep : Nat), h.get? a = some ob ∧ ob.ExactDict ∧ ob.data = .dict ents ep ∧ ents.toList = es.map fun x => (⟨x.1.hash w, .ref x.2.1, x.2.2⟩ : DictEntry)
mutual
/-- data as a deep key -/
def nkD : Dt → Option NestedKey
  | .non => some .none
  | .bl b => some (.num (if b = true then 1 else 0))
  | .int i => some (.num i)
  | .str x => some (.text x)
  | .tup l => (nkDs l).map .tup
  | .lst _ => none
  | .lsk _ => none
  | .obj _ => none
  | .exc _ => none
def nkDs : List Dt → Option (List NestedKey)
  | [] => some []
  | d :: r => match nkD d, nkDs r with
    | some k, some ks => some (k :: ks)
    | _, _ => none
end
/-- texts as they may be here -/
def sok (x : Str) : Bool := PyData.strOk x && decide (x.length ≤ 1000000)
/-- keys as they may be here -/
def kOk : Key → Bool
  | .inl _ => true
  | .inr x => sok x
section
variable (Γ : Wd) (ρ : List Addr) (F : Hp)
mutual
def Den : Dt → V → Prop
  | .non, v => v = .non
  | .bl b, v => v = .bl b
  | .int i, v => v = .int i
  | .str x, v => v = .str x ∧ sok x = true
  | .tup l, v => l.length ≤ sizeLine ∧ ∃ a xs, v = .ref a ∧ F a = some (.tup xs) ∧ Dens l xs
  | .lst l, v => l.length ≤ sizeLine ∧ ∃ a xs, v = .ref a ∧ F a = some (.lst xs) ∧ Dens l xs
  | .lsk l, v => l.length ≤ sizeLine ∧ ∃ a xs, v = .ref a ∧ SqL Γ.K F a xs ∧ Dens l xs
  | .obj i, v => ∃ a, v = .ref a ∧ ρ[i]? = some a
  | .exc c, v => ∃ a C, v = .ref a ∧ Γ.cl c C ∧ F a = some (ExH C a)
def Dens : List Dt → List V → Prop
  | [], vs => vs = []
  | d :: ds, vs => ∃ v r, vs = v :: r ∧ Den d v ∧ Dens ds r
end
def DenK {κ : Type} : List (κ × Dt) → List (κ × V) → Prop
  | [], vs => vs = []
  | (f, d) :: ds, vs => ∃ v r, vs = (f, v) :: r ∧ Den Γ ρ F d v ∧ DenK ds r
def DenN : List (NestedKey × Dt) → List (NestedKey × Addr × Value) → Prop
  | [], es => es = []
  | (k, d) :: r, es => ∃ b u v dk t, es = (k, b, u) :: t ∧ nkD dk = some k ∧ Den Γ ρ F dk (.ref b) ∧ RelV v u ∧ Den Γ ρ F d v ∧ DenN r t
def MoOk (H : Hp) (a : Addr) : Mo → Prop
  | .did kvs => (kvs.length ≤ sizeLine ∧ (kvs.map (·.1)).Nodup ∧ ∀ kv ∈ kvs, kv.1.depth ≤ 8) ∧ (a == sysModules) = false ∧ ∃ es, H a = some (NdO Γ.w a es) ∧ DenN Γ ρ F kvs es
  | .lst l => l.length ≤ sizeLine ∧ ∃ xs, H a = some (.lst xs) ∧ Dens Γ ρ F l xs
  | .ins c fs => ∃ C dx vs, Γ.cl c C ∧ H a = some (.ins C dx ((Γ.J c).2.zip vs)) ∧ Dens Γ ρ F fs vs ∧ fs.length ≤ (Γ.J c).2.length ∧ (Γ.J c).2.length < 1000
  | .dic kvs => (kvs.length ≤ sizeLine ∧ ∀ kv ∈ kvs, kOk kv.1 = true) ∧ ∃ vs, H a = some (.dK vs) ∧ DenK Γ ρ F kvs vs
  | .dit kvs => (kvs.length ≤ sizeLine ∧ ∀ kv ∈ kvs, kv.1.all kOk = true) ∧ ∃ vs, H a = some (.dT vs) ∧ DenK Γ ρ F kvs vs
  | .dicL kvs => (kvs.length ≤ sizeLine ∧ ∀ kv ∈ kvs, kOk kv.1 = true) ∧ ∃ od vs, (H a = some (.frz od (.dK vs)) ∧ F a = some (.frz od (.dK vs))) ∧ DenK Γ ρ F kvs vs
  | .ditL kvs => (kvs.length ≤ sizeLine ∧ ∀ kv ∈ kvs, kv.1.all kOk = true) ∧ ∃ od vs, (H a = some (.frz od (.dT vs)) ∧ F a = some (.frz od (.dT vs))) ∧ DenK Γ ρ F kvs vs
end
structure LD (ρ : List Addr) (F : Hp) (ρ' : List Addr) (F' : Hp) : Prop where
  pre : ∃ r, ρ' = ρ ++ r
  sub : ∀ a o, F a = some o → F' a = some o
theorem LD.refl {ρ : List Addr} {F : Hp} : LD ρ F ρ F := ⟨⟨[], by simp⟩, fun _ _ h => h⟩
theorem LD.trans {ρ ρ1 ρ2 : List Addr} {F F1 F2 : Hp} (a : LD ρ F ρ1 F1) (b : LD ρ1 F1 ρ2 F2) : LD ρ F ρ2 F2 := by
  obtain ⟨⟨r, e⟩, h⟩ := a
  obtain ⟨⟨r2, e2⟩, h2⟩ := b
  exact ⟨⟨r ++ r2, by rw [e2, e, List.append_assoc]⟩, fun a o q => h2 a o (h a o q)⟩
theorem LD.get {ρ ρ1 : List Addr} {F F1 : Hp} (a : LD ρ F ρ1 F1) {i : Nat} {x : Addr} (h : ρ[i]? = some x) : ρ1[i]? = some x := by
  obtain ⟨⟨r, e⟩, _⟩ := a
  rw [e, List.getElem?_append_left (List.getElem?_eq_some_iff.mp h).1]
  exact h
theorem rd_sub {F F1 : Hp} {a : Addr} {u : HO} (h : ∀ a o, F a = some o → F1 a = some o) (r : Rd F a u) : Rd F1 a u := by
  rcases r with r | ⟨o, r⟩
  · exact .inl (h _ _ r)
  · exact .inr ⟨o, h _ _ r⟩
theorem sqL_sub {K : PySem.W.Frag} {F F1 : Hp} {a : Addr} {xs : List V} (h : ∀ a o, F a = some o → F1 a = some o) (r : SqL K F a xs) : SqL K F1 a xs := by
  rcases r with r | r
  · exact .inl (rd_sub h r)
  · exact .inr r
section
variable {Γ : Wd} {ρ ρ1 : List Addr} {F F1 : Hp}
mutual
theorem Den.monoD (l : LD ρ F ρ1 F1) : ∀ (d : Dt) (v : V), Den Γ ρ F d v → Den Γ ρ1 F1 d v
  | .non, v, h => by simpa only [Den] using h
  | .bl b, v, h => by simpa only [Den] using h
  | .int i, v, h => by simpa only [Den] using h
  | .str x, v, h => by simpa only [Den] using h
  | .tup ds, v, h => by
    simp only [Den] at h ⊢
    obtain ⟨z, a, xs, e, q, r⟩ := h
    exact ⟨z, a, xs, e, l.sub _ _ q, Dens.monoD l ds xs r⟩
  | .lst ds, v, h => by
    simp only [Den] at h ⊢
    obtain ⟨z, a, xs, e, q, r⟩ := h
    exact ⟨z, a, xs, e, l.sub _ _ q, Dens.monoD l ds xs r⟩
  | .lsk ds, v, h => by
    simp only [Den] at h ⊢
    obtain ⟨z, a, xs, e, q, r⟩ := h
    exact ⟨z, a, xs, e, sqL_sub l.sub q, Dens.monoD l ds xs r⟩
  | .obj i, v, h => by
    simp only [Den] at h ⊢
    obtain ⟨a, e, q⟩ := h
    exact ⟨a, e, l.get q⟩
  | .exc c, v, h => by
    simp only [Den] at h ⊢
    obtain ⟨a, C, e, q, r⟩ := h
    exact ⟨a, C, e, q, l.sub _ _ r⟩
theorem Dens.monoD (l : LD ρ F ρ1 F1) : ∀ (ds : List Dt) (vs : List V), Dens Γ ρ F ds vs → Dens Γ ρ1 F1 ds vs
  | [], vs, h => by simpa only [Dens] using h
  | d :: ds, vs, h => by
    simp only [Dens] at h ⊢
    obtain ⟨v, r, e, q, t⟩ := h
    exact ⟨v, r, e, Den.monoD l d v q, Dens.monoD l ds r t⟩
end
theorem DenK.monoD {κ : Type} (l : LD ρ F ρ1 F1) : ∀ {ds : List (κ × Dt)} {vs : List (κ × V)}, DenK Γ ρ F ds vs → DenK Γ ρ1 F1 ds vs
  | [], vs, h => h
  | (f, d) :: ds, vs, h => by
    obtain ⟨v, r, e, q, t⟩ := h
    exact ⟨v, r, e, Den.monoD l d v q, DenK.monoD l t⟩
theorem DenN.monoD (l : LD ρ F ρ1 F1) : ∀ {ds : List (NestedKey × Dt)} {es : List (NestedKey × Addr × Value)}, DenN Γ ρ F ds es → DenN Γ ρ1 F1 ds es
  | [], es, h => h
  | (k, d) :: ds, es, h => by
    obtain ⟨b, u, v, dk, t, e, h1, h2, h3, h4, h5⟩ := h
    exact ⟨b, u, v, dk, t, e, h1, Den.monoD l _ _ h2, h3, Den.monoD l _ _ h4, DenN.monoD l h5⟩
theorem MoOk.mono (l : LD ρ F ρ1 F1) {H H1 : Hp} {a : Addr} (e : H1 a = H a) : ∀ {mo : Mo}, MoOk Γ ρ F H a mo → MoOk Γ ρ1 F1 H1 a mo
  | .did kvs, ⟨z, y, es, h, q⟩ => ⟨z, y, es, by rw [e]; exact h, DenN.monoD l q⟩
  | .lst ds, ⟨z, xs, h, q⟩ => ⟨z, xs, by rw [e]; exact h, Dens.monoD l _ _ q⟩
  | .ins c fs, ⟨C, dx, vs, g, h, q, z⟩ => ⟨C, dx, vs, g, by rw [e]; exact h, Dens.monoD l _ _ q, z⟩
  | .dic kvs, ⟨z, vs, h, q⟩ => ⟨z, vs, by rw [e]; exact h, DenK.monoD l q⟩
  | .dit kvs, ⟨z, vs, h, q⟩ => ⟨z, vs, by rw [e]; exact h, DenK.monoD l q⟩
  | .dicL kvs, ⟨z, od, vs, h, q⟩ => ⟨z, od, vs, ⟨by rw [e]; exact h.1, l.sub _ _ h.2⟩, DenK.monoD l q⟩
  | .ditL kvs, ⟨z, od, vs, h, q⟩ => ⟨z, od, vs, ⟨by rw [e]; exact h.1, l.sub _ _ h.2⟩, DenK.monoD l q⟩
end
theorem MoOk.there {Γ : Wd} {ρ : List Addr} {F H : Hp} {a : Addr} : ∀ {mo : Mo}, MoOk Γ ρ F H a mo → ∃ o, H a = some o
  | .did kvs, ⟨_, _, es, h, q⟩ => ⟨_, h⟩
  | .lst ds, ⟨_, xs, h, q⟩ => ⟨_, h⟩
  | .ins c fs, ⟨C, dx, vs, g, h, q⟩ => ⟨_, h⟩
  | .dic kvs, ⟨_, vs, h, q⟩ => ⟨_, h⟩
  | .dit kvs, ⟨_, vs, h, q⟩ => ⟨_, h⟩
  | .dicL kvs, ⟨_, od, vs, h, q⟩ => ⟨_, h.1⟩
  | .ditL kvs, ⟨_, od, vs, h, q⟩ => ⟨_, h.1⟩
structure G (Γ : Wd) (ρ : List Addr) (F : Hp) (s : Sto) (H : Hp) : Prop where
  sub : ∀ a o, F a = some o → H a = some o
  len : ρ.length = s.length
  nd : ρ.Nodup
  sep : ∀ a ∈ ρ, F a = none ∨ ∃ od u, F a = some (.frz od u)
  at_ : ∀ (i : Nat) (a : Addr) (mo : Mo), ρ[i]? = some a → s[i]? = some mo → MoOk Γ ρ F H a mo
section
variable {Γ : Wd} {ρ ρ1 : List Addr} {F F1 H : Hp} {s : Sto}
theorem G.ex (g : G Γ ρ F s H) {a : Addr} (h : a ∈ ρ) : ∃ o, H a = some o := by
  obtain ⟨i, hi, e⟩ := List.mem_iff_getElem.mp h
  have hs : i < s.length := by rw [← g.len]; exact hi
  exact (g.at_ i a s[i] (by rw [← e]; exact List.getElem?_eq_getElem hi) (List.getElem?_eq_getElem hs)).there
theorem G.new_ne (g : G Γ ρ F s H) {p : Addr} (hp : H p = none) {a : Addr} (h : a ∈ ρ) : a ≠ p := fun e => by
  obtain ⟨o, q⟩ := g.ex h
  rw [e, hp] at q
  cases q
theorem G.fnone (g : G Γ ρ F s H) {p : Addr} (hp : H p = none) : F p = none := by
  cases e : F p with
  | none => rfl
  | some o => rw [g.sub _ _ e] at hp; cases hp
theorem LD.upd {p : Addr} {o : HO} (h : F p = none) : LD ρ F ρ (upd F p o) := ⟨⟨[], by simp⟩, fun a u e => by rw [upd_ne (fun z => by rw [z, h] at e; cases e)]; exact e⟩
theorem LD.push {p : Addr} : LD ρ F (ρ ++ [p]) F := ⟨⟨[p], rfl⟩, fun _ _ e => e⟩
/-- a new object that never changes -/
theorem G.frz (g : G Γ ρ F s H) {p : Addr} (o : HO) (hp : H p = none) : G Γ ρ (upd F p o) s (upd H p o) where
  sub := fun a u e => by
    by_cases h : a = p
    · subst h; rw [upd_same] at e ⊢; exact e
    · rw [upd_ne h] at e ⊢; exact g.sub _ _ e
  len := g.len
  nd := g.nd
  sep := fun a h => by rw [upd_ne (g.new_ne hp h)]; exact g.sep a h
  at_ := fun i a mo h1 h2 => (g.at_ i a mo h1 h2).mono (LD.upd (g.fnone hp)) (upd_ne (g.new_ne hp (List.mem_of_getElem? h1)))
/-- a new object that is forgotten at once -/
theorem G.skip (g : G Γ ρ F s H) {p : Addr} (o : HO) (hp : H p = none) : G Γ ρ F s (upd H p o) where
  sub := fun a u e => by
    rw [upd_ne (fun z => by rw [z, g.fnone hp] at e; cases e)]; exact g.sub _ _ e
  len := g.len
  nd := g.nd
  sep := g.sep
  at_ := fun i a mo h1 h2 => (g.at_ i a mo h1 h2).mono LD.refl (upd_ne (g.new_ne hp (List.mem_of_getElem? h1)))
/-- a new object of the store -/
theorem G.new (g : G Γ ρ F s H) {p : Addr} {o : HO} {mo : Mo} (hp : H p = none) (hm : MoOk Γ (ρ ++ [p]) F (upd H p o) p mo) : G Γ (ρ ++ [p]) F (s ++ [mo]) (upd H p o) where
  sub := fun a u e => by
    rw [upd_ne (fun z => by rw [z, g.fnone hp] at e; cases e)]; exact g.sub _ _ e
  len := by simp [g.len]
  nd := by
    refine List.nodup_append.mpr ⟨g.nd, by simp, fun a ha b hb => ?_⟩
    rw [List.mem_singleton] at hb
    rw [hb]
    exact g.new_ne hp ha
  sep := fun a h => by
    rcases List.mem_append.mp h with h | h
    · exact g.sep a h
    · rw [List.mem_singleton] at h; rw [h]; exact .inl (g.fnone hp)
  at_ := fun i a m h1 h2 => by
    by_cases hi : i < ρ.length
    · rw [List.getElem?_append_left hi] at h1
      rw [List.getElem?_append_left (by rw [← g.len]; exact hi)] at h2
      exact (g.at_ i a m h1 h2).mono LD.push (upd_ne (g.new_ne hp (List.mem_of_getElem? h1)))
    · rw [List.getElem?_append_right (by omega)] at h1
      rw [List.getElem?_append_right (by rw [← g.len]; omega)] at h2
      have e0 : i - ρ.length = 0 := by
        have := (List.getElem?_eq_some_iff.mp h1).1
        simp at this
        omega
      rw [e0] at h1
      rw [← g.len, e0] at h2
      have e1 : p = a := Option.some.inj h1
      have e2 : mo = m := Option.some.inj h2
      subst e1; subst e2
      exact hm
/-- an object of the store is written -/
theorem G.free (g : G Γ ρ F s H) {a : Addr} (h : a ∈ ρ) (nf : ∀ od u, H a ≠ some (.frz od u)) : F a = none := by
  rcases g.sep a h with h | ⟨od, u, h⟩
  · exact h
  · exact absurd (g.sub _ _ h) (nf od u)
theorem G.put (g : G Γ ρ F s H) {i : Nat} {a : Addr} {o : HO} {mo : Mo} (hi : ρ[i]? = some a) (nf : ∀ od u, H a ≠ some (.frz od u)) (hm : MoOk Γ ρ F (upd H a o) a mo) : G Γ ρ F (s.set i mo) (upd H a o) where
  sub := fun b u e => by
    rw [upd_ne (fun z => by rw [z, g.free (List.mem_of_getElem? hi) nf] at e; cases e)]; exact g.sub _ _ e
  len := by rw [List.length_set]; exact g.len
  nd := g.nd
  sep := g.sep
  at_ := fun j b m h1 h2 => by
    by_cases hj : i = j
    · subst hj
      have e : a = b := Option.some.inj (hi.symm.trans h1)
      subst e
      have hl : i < s.length := by rw [← g.len]; exact (List.getElem?_eq_some_iff.mp hi).1
      rw [List.getElem?_set_self hl] at h2
      cases h2
      exact hm
    · rw [List.getElem?_set_ne hj] at h2
      refine (g.at_ j b m h1 h2).mono LD.refl (upd_ne fun z => hj ?_)
      subst z
      exact nd_ix g.nd hi h1
end
/-- what may have come to pass: more is known, what was not the store's stands as it stood -/
structure LE (ρ : List Addr) (F H : Hp) (ρ' : List Addr) (F' H' : Hp) : Prop where
  ld : LD ρ F ρ' F'
  fr : ∀ a, a ∈ ρ' → a ∈ ρ ∨ H a = none
  ff : ∀ a o, F' a = some o → (∃ u, F a = some u) ∨ H a = none ∨ (a ∉ ρ ∧ ∃ xs, H a = some (.tup xs))
  keep : ∀ a o, H a = some o → a ∉ ρ → H' a = some o
  there : ∀ a o, H a = some o → ∃ u, H' a = some u
theorem LE.refl {ρ : List Addr} {F H : Hp} : LE ρ F H ρ F H := ⟨LD.refl, fun _ h => .inl h, fun _ o h => .inl ⟨o, h⟩, fun _ _ h _ => h, fun _ o h => ⟨o, h⟩⟩
theorem LE.gone {ρ ρ1 : List Addr} {F H F1 H1 : Hp} (l : LE ρ F H ρ1 F1 H1) {a : Addr} (h : H1 a = none) : H a = none := by
  cases e : H a with
  | none => rfl
  | some o =>
    obtain ⟨u, q⟩ := l.there a o e
    rw [h] at q
    cases q
theorem LE.sub {ρ ρ1 : List Addr} {F H F1 H1 : Hp} (l : LE ρ F H ρ1 F1 H1) {a : Addr} (h : a ∈ ρ) : a ∈ ρ1 := by
  obtain ⟨r, e⟩ := l.ld.pre
  rw [e]
  exact List.mem_append_left _ h
theorem LE.trans {ρ ρ1 ρ2 : List Addr} {F F1 F2 H H1 H2 : Hp} (a : LE ρ F H ρ1 F1 H1) (b : LE ρ1 F1 H1 ρ2 F2 H2) : LE ρ F H ρ2 F2 H2 where
  ld := a.ld.trans b.ld
  fr := fun x h => by
    rcases b.fr x h with h | h
    · exact a.fr x h
    · exact .inr (a.gone h)
  ff := fun x o h => by
    rcases b.ff x o h with ⟨u, h⟩ | h | ⟨n, xs, h⟩
    · exact a.ff x u h
    · exact .inr (.inl (a.gone h))
    · have n0 : x ∉ ρ := fun z => n (a.sub z)
      cases e : H x with
      | none => exact .inr (.inl rfl)
      | some u =>
        have := a.keep x u e n0
        rw [h] at this
        cases this
        exact .inr (.inr ⟨n0, xs, rfl⟩)
  keep := fun x o h n => b.keep x o (a.keep x o h n) fun z => by
    rcases a.fr x z with z | z
    · exact n z
    · rw [h] at z; cases z
  there := fun x o h => by
    obtain ⟨u, q⟩ := a.there x o h
    exact b.there x u q
theorem Den.mono {Γ : Wd} {ρ ρ1 : List Addr} {F F1 H H1 : Hp} (l : LE ρ F H ρ1 F1 H1) (d : Dt) (v : V) (h : Den Γ ρ F d v) : Den Γ ρ1 F1 d v := Den.monoD l.ld d v h
theorem Dens.mono {Γ : Wd} {ρ ρ1 : List Addr} {F F1 H H1 : Hp} (l : LE ρ F H ρ1 F1 H1) (d : List Dt) (v : List V) (h : Dens Γ ρ F d v) : Dens Γ ρ1 F1 d v := Dens.monoD l.ld d v h
section
variable {Γ : Wd} {ρ : List Addr} {F H : Hp} {s : Sto}
theorem upd_keep {a p : Addr} {o u : HO} (hp : H p = none) (h : H a = some o) : upd H p u a = some o := by rw [upd_ne (ne_of_none h hp)]; exact h
theorem LE.frz (g : G Γ ρ F s H) {p : Addr} {o : HO} (hp : H p = none) : LE ρ F H ρ (upd F p o) (upd H p o) where
  ld := LD.upd (g.fnone hp)
  fr := fun _ h => .inl h
  ff := fun a u h => by
    by_cases e : a = p
    · subst e; exact .inr (.inl hp)
    · rw [upd_ne e] at h; exact .inl ⟨u, h⟩
  keep := fun a u h _ => upd_keep hp h
  there := fun a u h => ⟨u, upd_keep hp h⟩
theorem LE.new {p : Addr} {o : HO} (hp : H p = none) : LE ρ F H (ρ ++ [p]) F (upd H p o) where
  ld := LD.push
  fr := fun a h => by
    rcases List.mem_append.mp h with h | h
    · exact .inl h
    · rw [List.mem_singleton] at h; rw [h]; exact .inr hp
  ff := fun a u h => .inl ⟨u, h⟩
  keep := fun a u h _ => upd_keep hp h
  there := fun a u h => ⟨u, upd_keep hp h⟩
theorem LE.skip {p : Addr} {o : HO} (hp : H p = none) : LE ρ F H ρ F (upd H p o) where
  ld := LD.refl
  fr := fun _ h => .inl h
  ff := fun a u h => .inl ⟨u, h⟩
  keep := fun a u h _ => upd_keep hp h
  there := fun a u h => ⟨u, upd_keep hp h⟩
theorem LE.put {a : Addr} {o : HO} (ha : a ∈ ρ) : LE ρ F H ρ F (upd H a o) where
  ld := LD.refl
  fr := fun _ h => .inl h
  ff := fun a u h => .inl ⟨u, h⟩
  keep := fun b u h n => by rw [upd_ne (fun e => n (by rw [e]; exact ha))]; exact h
  there := fun b u h => by
    by_cases e : b = a
    · subst e; exact ⟨o, upd_same⟩
    · exact ⟨u, by rw [upd_ne e]; exact h⟩
/-- an object that is neither the store's nor known is written -/
theorem G.other (g : G Γ ρ F s H) {p : Addr} (o : HO) (hp : p ∉ ρ) (hf : F p = none) : G Γ ρ F s (upd H p o) where
  sub := fun a u e => by
    rw [upd_ne (fun z => by rw [z, hf] at e; cases e)]; exact g.sub _ _ e
  len := g.len
  nd := g.nd
  sep := g.sep
  at_ := fun i a mo h1 h2 => (g.at_ i a mo h1 h2).mono LD.refl (upd_ne fun z => hp (by rw [← z]; exact List.mem_of_getElem? h1))
end
/-! ### meanings -/
abbrev En := List (Option Dt)
abbrev Ex := En → Sto → Out Dt
abbrev Tx := En → Sto → Out Bool
inductive Fl where
  | nx (e : En) | rt (d : Dt) | bk (e : En) | ct (e : En)
inductive Res where
  | fl (f : Fl) (s : Sto) | exc (c : Nat) (e : En) (s : Sto) | bad
abbrev Sx := En → Sto → Res
structure Sl (Γ : Wd) (ρ : List Addr) (F : Hp) (env : En) (σ : St) : Prop where
  len : env.length = σ.length
  at_ : ∀ (i : Nat) (d : Dt), env[i]? = some (some d) → ∃ v : V, σ[i]? = some (some v) ∧ Den Γ ρ F d v
theorem Sl.mono {Γ : Wd} {ρ ρ1 : List Addr} {F F1 H H1 : Hp} {env : En} {σ : St} (h : Sl Γ ρ F env σ) (l : LE ρ F H ρ1 F1 H1) : Sl Γ ρ1 F1 env σ :=
  ⟨h.len, fun i d e => by obtain ⟨v, q, r⟩ := h.at_ i d e; exact ⟨v, q, Den.mono l d v r⟩⟩
theorem Sl.set {Γ : Wd} {ρ : List Addr} {F : Hp} {env : En} {σ : St} (h : Sl Γ ρ F env σ) {d : Dt} {v : V} (r : Den Γ ρ F d v) (i : Nat) : Sl Γ ρ F (env.set i (some d)) (σ.set i (some v)) := by
  refine ⟨by rw [List.length_set, List.length_set]; exact h.len, fun j e q => ?_⟩
  by_cases hj : i = j
  · subst hj
    have hl : i < env.length := by
      have := (List.getElem?_eq_some_iff.mp q).1
      rw [List.length_set] at this
      exact this
    rw [List.getElem?_set_self hl] at q
    have e1 : d = e := by injection q with q; injection q
    subst e1
    exact ⟨v, List.getElem?_set_self (by rw [← h.len]; exact hl), r⟩
  · rw [List.getElem?_set_ne hj] at q
    rw [List.getElem?_set_ne hj]
    exact h.at_ j e q
theorem Sl.unset {Γ : Wd} {ρ : List Addr} {F : Hp} {env : En} {σ : St} (h : Sl Γ ρ F env σ) (i : Nat) : Sl Γ ρ F (env.set i none) (σ.set i none) := by
  refine ⟨by rw [List.length_set, List.length_set]; exact h.len, fun j e q => ?_⟩
  by_cases hj : i = j
  · subst hj
    have hl : i < env.length := by
      have := (List.getElem?_eq_some_iff.mp q).1
      rw [List.length_set] at this
      exact this
    rw [List.getElem?_set_self hl] at q
    injection q with q
    cases q
  · rw [List.getElem?_set_ne hj] at q
    rw [List.getElem?_set_ne hj]
    exact h.at_ j e q
/-- what is to be shown behind an outcome -/
def Po {α β : Type} (Γ : Wd) (Rl : List Addr → Hp → α → β → Prop) (ρ : List Addr) (F H : Hp) (Q : β → Hp → Prop) (E : Value → Hp → Prop) : Out α → Prop
  | .ok d s => ∀ ρ' F' H' v, LE ρ F H ρ' F' H' → G Γ ρ' F' s H' → Rl ρ' F' d v → Q v H'
  | .exc c s => ∀ ρ' F' H' C, LE ρ F H ρ' F' H' → G Γ ρ' F' s H' → Γ.cl c C → E (.ref C) H'
  | .bad => False
abbrev EPo (Γ : Wd) := Po Γ (Den Γ)
abbrev APo (Γ : Wd) := Po Γ (Dens Γ)
abbrev BPo (Γ : Wd) := Po Γ (fun _ _ (a : Bool) (b : Bool) => a = b)
theorem Po.mono {α β : Type} {Γ : Wd} {Rl : List Addr → Hp → α → β → Prop} {ρ ρ1 : List Addr} {F F1 H H1 : Hp} {Q Q' : β → Hp → Prop} {E E' : Value → Hp → Prop} (l : LE ρ F H ρ1 F1 H1) (hq : ∀ v H, Q v H → Q' v H) (he : ∀ v H, E v H → E' v H) :
    ∀ {o : Out α}, Po Γ Rl ρ F H Q E o → Po Γ Rl ρ1 F1 H1 Q' E' o
  | .ok d s, h => fun ρ' F' H' v l' g r => hq _ _ (h ρ' F' H' v (l.trans l') g r)
  | .exc c s, h => fun ρ' F' H' C l' g r => he _ _ (h ρ' F' H' C (l.trans l') g r)
  | .bad, h => h
/-- one computation behind another -/
def bnd {α β : Type} (m : Sto → Out α) (k : α → Sto → Out β) (s : Sto) : Out β := match m s with
  | .ok a s' => k a s'
  | .exc c s' => .exc c s'
  | .bad => .bad
@[simp] theorem bnd_ok {α β : Type} {m : Sto → Out α} {k : α → Sto → Out β} {s s' : Sto} {a : α} (h : m s = .ok a s') : bnd m k s = k a s' := by unfold bnd; rw [h]
theorem Po.bind {α β γ δ : Type} {Γ : Wd} {R1 : List Addr → Hp → α → β → Prop} {R2 : List Addr → Hp → γ → δ → Prop} {ρ : List Addr} {F H : Hp} {Q : δ → Hp → Prop} {Q1 : β → Hp → Prop} {E : Value → Hp → Prop} {m : Sto → Out α} {k : α → Sto → Out γ} {s : Sto}
    (h : Po Γ R2 ρ F H Q E (bnd m k s)) (hk : ∀ a s' ρ' F' H' v, m s = .ok a s' → LE ρ F H ρ' F' H' → G Γ ρ' F' s' H' → R1 ρ' F' a v → Po Γ R2 ρ' F' H' Q E (k a s') → Q1 v H') : Po Γ R1 ρ F H Q1 E (m s) := by
  unfold bnd at h
  cases e : m s with
  | ok a s' =>
    rw [e] at h
    exact fun ρ' F' H' v l g r => hk a s' ρ' F' H' v e l g r (h.mono l (fun _ _ q => q) fun _ _ q => q)
  | exc c s' => rw [e] at h; exact h
  | bad => rw [e] at h; exact h
/-- the readings that a meaning gives -/
def tE (Γ : Wd) (W : WX) (f : Ex) : TE := fun σ H Q => ∃ env ρ F s, G Γ ρ F s H ∧ Sl Γ ρ F env σ ∧ EPo Γ ρ F H Q (fun c H' => W c none σ H') (f env s)
def tT (Γ : Wd) (W : WX) (f : Tx) : TT := fun σ H Q => ∃ env ρ F s, G Γ ρ F s H ∧ Sl Γ ρ F env σ ∧ BPo Γ ρ F H Q (fun c H' => W c none σ H') (f env s)
/-- several, from the left -/
def evs : List Ex → En → Sto → Out (List Dt)
  | [], _, s => .ok [] s
  | f :: fs, env, s => bnd (f env) (fun d => bnd (evs fs env) fun ds s => .ok (d :: ds) s) s
def tA (Γ : Wd) (W : WX) (f : List Ex) : TA := fun σ H Q => ∃ env ρ F s, G Γ ρ F s H ∧ Sl Γ ρ F env σ ∧ APo Γ ρ F H Q (fun c H' => W c none σ H') (evs f env s)
def FPo (Γ : Wd) (W : WX) (ρ : List Addr) (F H : Hp) (D : Ends) : Res → Prop
  | .fl (.nx e) s => ∀ ρ' F' H' σ, LE ρ F H ρ' F' H' → G Γ ρ' F' s H' → Sl Γ ρ' F' e σ → D.nx σ H'
  | .fl (.rt d) s => ∀ ρ' F' H' v, LE ρ F H ρ' F' H' → G Γ ρ' F' s H' → Den Γ ρ' F' d v → D.rt v H'
  | .fl (.bk e) s => ∀ ρ' F' H' σ, LE ρ F H ρ' F' H' → G Γ ρ' F' s H' → Sl Γ ρ' F' e σ → D.bk σ H'
  | .fl (.ct e) s => ∀ ρ' F' H' σ, LE ρ F H ρ' F' H' → G Γ ρ' F' s H' → Sl Γ ρ' F' e σ → D.ct σ H'
  | .exc c e s => ∀ ρ' F' H' σ C, LE ρ F H ρ' F' H' → G Γ ρ' F' s H' → Sl Γ ρ' F' e σ → Γ.cl c C → W (.ref C) none σ H'
  | .bad => False
def tS (Γ : Wd) (W : WX) (f : Sx) : TS := fun D σ H => ∃ env ρ F s, G Γ ρ F s H ∧ Sl Γ ρ F env σ ∧ FPo Γ W ρ F H D (f env s)
theorem FPo.le {Γ : Wd} {W : WX} {ρ ρ1 : List Addr} {F F1 H H1 : Hp} {D : Ends} (l : LE ρ F H ρ1 F1 H1) : ∀ {r : Res}, FPo Γ W ρ F H D r → FPo Γ W ρ1 F1 H1 D r
  | .fl (.nx e) s, h => fun ρ' F' H' σ l' g r => h ρ' F' H' σ (l.trans l') g r
  | .fl (.rt d) s, h => fun ρ' F' H' σ l' g r => h ρ' F' H' σ (l.trans l') g r
  | .fl (.bk e) s, h => fun ρ' F' H' σ l' g r => h ρ' F' H' σ (l.trans l') g r
  | .fl (.ct e) s, h => fun ρ' F' H' σ l' g r => h ρ' F' H' σ (l.trans l') g r
  | .exc c e s, h => fun ρ' F' H' σ C l' g r => h ρ' F' H' σ C (l.trans l') g r
  | .bad, h => h
theorem PE.imp {X : Cx} {e : Expr} {t t' : TE} (h : PE X e t) (k : ∀ σ H Q, t' σ H Q → t σ H Q) : PE X e t' := ⟨fun pins s σ H Q I q => h.run pins s σ H Q I (k σ H Q q)⟩
theorem PT.imp {X : Cx} {e : Expr} {t t' : TT} (h : PT X e t) (k : ∀ σ H Q, t' σ H Q → t σ H Q) : PT X e t' := ⟨fun pins s σ H Q I q => h.run pins s σ H Q I (k σ H Q q)⟩
theorem PW.imp {X : Cx} {e : Expr} {t t' : TT} (h : PW X e t) (k : ∀ σ H Q, t' σ H Q → t σ H Q) : PW X e t' := ⟨fun wh pins s σ H Q I q => h.run wh pins s σ H Q I (k σ H Q q)⟩
theorem PA.imp {X : Cx} {e : List Expr} {t t' : TA} (h : PA X e t) (k : ∀ σ H Q, t' σ H Q → t σ H Q) : PA X e t' := ⟨fun pos pins s σ H Q I q => h.run pos pins s σ H Q I (k σ H Q q)⟩
theorem PS.imp {X : Cx} {e : Stmt} {t t' : TS} (h : PS X e t) (k : ∀ D σ H, t' D σ H → t D σ H) : PS X e t' := ⟨fun pins s σ H D I q => h.run pins s σ H D I (k D σ H q)⟩
theorem PSs.imp {X : Cx} {e : List Stmt} {t t' : TS} (h : PSs X e t) (k : ∀ D σ H, t' D σ H → t D σ H) : PSs X e t' := ⟨fun pins s σ H D I q => h.run pins s σ H D I (k D σ H q)⟩
abbrev wd (J : Cn) (X : Cx) : Wd := ⟨X.K, X.mg, J, X.w⟩
abbrev ES (J : Cn) (X : Cx) (W : WX) (e : Expr) (f : Ex) : Prop := PE X e (tE (wd J X) W f)
abbrev TSo (J : Cn) (X : Cx) (W : WX) (e : Expr) (f : Tx) : Prop := PT X e (tT (wd J X) W f)
abbrev WSo (J : Cn) (X : Cx) (W : WX) (e : Expr) (f : Tx) : Prop := PW X e (tT (wd J X) W f)
abbrev ASo (J : Cn) (X : Cx) (W : WX) (e : List Expr) (f : List Ex) : Prop := PA X e (tA (wd J X) W f)
abbrev SS (J : Cn) (X : Cx) (W : WX) (e : Stmt) (f : Sx) : Prop := PS X e (tS (wd J X) W f)
abbrev SSs (J : Cn) (X : Cx) (W : WX) (e : List Stmt) (f : Sx) : Prop := PSs X e (tS (wd J X) W f)
end Pd
namespace Pd
open PySem L2
/-! ### reading data -/
def asL (s : Sto) : Dt → Option (List Dt)
  | .lst l => some l
  | .lsk l => some l
  | .obj i => match s[i]? with
    | some (.lst l) => some l
    | _ => none
  | _ => none
def asT : Dt → Option (List Dt)
  | .tup l => some l
  | _ => none
def asQ (s : Sto) (d : Dt) : Option (List Dt) := match d with
  | .tup l => some l
  | _ => asL s d
section
variable {Γ : Wd} {ρ : List Addr} {F H : Hp} {s : Sto}
theorem G.sqL (g : G Γ ρ F s H) {d : Dt} {v : V} {l : List Dt} (r : Den Γ ρ F d v) (h : asL s d = some l) : ∃ a xs, v = .ref a ∧ SqL Γ.K H a xs ∧ Dens Γ ρ F l xs ∧ l.length ≤ sizeLine := by
  cases d with
  | lst l' =>
    simp only [Den] at r
    simp only [asL, Option.some.injEq] at h
    subst h
    obtain ⟨z, a, xs, e, q, t⟩ := r
    exact ⟨a, xs, e, SqL.of (g.sub _ _ q), t, z⟩
  | lsk l' =>
    simp only [Den] at r
    simp only [asL, Option.some.injEq] at h
    subst h
    obtain ⟨z, a, xs, e, q, t⟩ := r
    exact ⟨a, xs, e, sqL_sub g.sub q, t, z⟩
  | obj i =>
    simp only [Den] at r
    obtain ⟨a, e, q⟩ := r
    simp only [asL] at h
    split at h
    · rename_i l' hs
      cases h
      obtain ⟨z, xs, ha, t⟩ := g.at_ i a _ q hs
      exact ⟨a, xs, e, SqL.of ha, t, z⟩
    · cases h
  | _ => simp [asL] at h
theorem G.sqT (g : G Γ ρ F s H) {d : Dt} {v : V} {l : List Dt} (r : Den Γ ρ F d v) (h : asT d = some l) : ∃ a xs, v = .ref a ∧ SqT Γ.K H a xs ∧ Dens Γ ρ F l xs ∧ l.length ≤ sizeLine := by
  cases d with
  | tup l' =>
    simp only [Den] at r
    simp only [asT, Option.some.injEq] at h
    subst h
    obtain ⟨z, a, xs, e, q, t⟩ := r
    exact ⟨a, xs, e, SqT.of (g.sub _ _ q), t, z⟩
  | _ => simp [asT] at h
theorem G.sqQ (g : G Γ ρ F s H) {d : Dt} {v : V} {l : List Dt} (r : Den Γ ρ F d v) (h : asQ s d = some l) : ∃ a xs, v = .ref a ∧ (SqL Γ.K H a xs ∨ SqT Γ.K H a xs) ∧ Dens Γ ρ F l xs ∧ l.length ≤ sizeLine := by
  cases d with
  | tup l' =>
    obtain ⟨a, xs, e, q, t⟩ := g.sqT r (l := l) (by simpa [asQ, asT] using h)
    exact ⟨a, xs, e, .inr q, t⟩
  | _ =>
    obtain ⟨a, xs, e, q, t⟩ := g.sqL r (l := l) (by simpa [asQ] using h)
    exact ⟨a, xs, e, .inl q, t⟩
theorem Dens.length : ∀ {ds : List Dt} {vs : List V}, Dens Γ ρ F ds vs → ds.length = vs.length
  | [], vs, h => by simp only [Dens] at h; rw [h]; rfl
  | d :: ds, vs, h => by
    simp only [Dens] at h
    obtain ⟨v, r, e, q, t⟩ := h
    rw [e, List.length_cons, List.length_cons, Dens.length t]
theorem Dens.get : ∀ {ds : List Dt} {vs : List V} {i : Nat} {d : Dt}, Dens Γ ρ F ds vs → ds[i]? = some d → ∃ v, vs[i]? = some v ∧ Den Γ ρ F d v
  | [], vs, i, d, h, e => by simp at e
  | d' :: ds, vs, i, d, h, e => by
    simp only [Dens] at h
    obtain ⟨v, r, e', q, t⟩ := h
    subst e'
    cases i with
    | zero => simp at e; subst e; exact ⟨v, rfl, q⟩
    | succ i =>
      obtain ⟨u, hu, q2⟩ := Dens.get (i := i) (d := d) t (by simpa using e)
      exact ⟨u, by simpa using hu, q2⟩
theorem Dens.append : ∀ {ds es : List Dt} {vs us : List V}, Dens Γ ρ F ds vs → Dens Γ ρ F es us → Dens Γ ρ F (ds ++ es) (vs ++ us)
  | [], es, vs, us, h, k => by simp only [Dens] at h; subst h; exact k
  | d :: ds, es, vs, us, h, k => by
    simp only [Dens] at h
    obtain ⟨v, r, e, q, t⟩ := h
    subst e
    show Dens Γ ρ F (d :: (ds ++ es)) (v :: (r ++ us))
    simp only [Dens]
    exact ⟨v, _, rfl, q, Dens.append t k⟩
theorem Dens.one {d : Dt} {v : V} (h : Den Γ ρ F d v) : Dens Γ ρ F [d] [v] := by
  simp only [Dens]
  exact ⟨v, [], rfl, h, rfl⟩
theorem Dens.drop : ∀ {ds : List Dt} {vs : List V} (n : Nat), Dens Γ ρ F ds vs → Dens Γ ρ F (ds.drop n) (vs.drop n)
  | [], vs, n, h => by simp only [Dens] at h; subst h; simp [Dens]
  | d :: ds, vs, 0, h => h
  | d :: ds, vs, n + 1, h => by
    simp only [Dens] at h
    obtain ⟨v, r, e, q, t⟩ := h
    subst e
    exact Dens.drop n t
theorem Dens.take : ∀ {ds : List Dt} {vs : List V} (n : Nat), Dens Γ ρ F ds vs → Dens Γ ρ F (ds.take n) (vs.take n)
  | [], vs, n, h => by simp only [Dens] at h; subst h; simp [Dens]
  | d :: ds, vs, 0, h => by simp [Dens]
  | d :: ds, vs, n + 1, h => by
    simp only [Dens] at h
    obtain ⟨v, r, e, q, t⟩ := h
    subst e
    show Dens Γ ρ F (d :: ds.take n) (v :: r.take n)
    simp only [Dens]
    exact ⟨v, _, rfl, q, Dens.take n t⟩
theorem Dens.set {d : Dt} {v : V} (hd : Den Γ ρ F d v) : ∀ {ds : List Dt} {vs : List V} (n : Nat), Dens Γ ρ F ds vs → Dens Γ ρ F (ds.set n d) (vs.set n v)
  | [], vs, n, h => by simp only [Dens] at h; subst h; simp [Dens]
  | d' :: ds, vs, 0, h => by
    simp only [Dens] at h
    obtain ⟨v', r, e, q, t⟩ := h
    subst e
    show Dens Γ ρ F (d :: ds) (v :: r)
    simp only [Dens]
    exact ⟨v, _, rfl, hd, t⟩
  | d' :: ds, vs, n + 1, h => by
    simp only [Dens] at h
    obtain ⟨v', r, e, q, t⟩ := h
    subst e
    show Dens Γ ρ F (d' :: ds.set n d) (v' :: r.set n v)
    simp only [Dens]
    exact ⟨v', _, rfl, q, Dens.set hd n t⟩
end
/-! ### expressions -/
section
variable {J : Cn} {X : Cx} {W : WX} {a b c e : Expr} {es : List Expr} {fa fb fc : Ex} {pos : Pos}
def eVar (i : Nat) : Ex := fun env s => match env[i]? with
  | some (some d) => .ok d s
  | _ => .bad
theorem es_var {i : Nat} (h : PE X e (tVar i)) : ES J X W e (eVar i) := by
  refine PE.imp h fun σ H Q ⟨env, ρ, F, s, g, l, k⟩ => ?_
  unfold eVar at k
  split at k
  · rename_i d hd
    obtain ⟨v, q, r⟩ := l.at_ i d hd
    exact ⟨v, q, k ρ F H v LE.refl g r⟩
  · exact k.elim
def eC (d : Dt) : Ex := fun _ s => .ok d s
theorem es_c {d : Dt} {v : V} (h : PE X e (tC v)) (hd : ∀ ρ F, Den (wd J X) ρ F d v) : ES J X W e (eC d) :=
  PE.imp h fun σ H Q ⟨env, ρ, F, s, g, l, k⟩ => k ρ F H v LE.refl g (hd ρ F)
theorem es_int {i : Int} {j} : ES J X W (.Constant (.int i) j pos) (eC (.int i)) := es_c pe_int fun _ _ => by simp only [Den]
theorem es_bl {i : Bool} {j} : ES J X W (.Constant (.bool i) j pos) (eC (.bl i)) := es_c pe_bl fun _ _ => by simp only [Den]
theorem es_non {j} : ES J X W (.Constant .none j pos) (eC .non) := es_c pe_non fun _ _ => by simp only [Den]
theorem es_str {x : Str} {j} (h : sok x = true := by decide +kernel) : ES J X W (.Constant (.str x) j pos) (eC (.str x)) := es_c pe_str fun _ _ => by simp only [Den]; exact ⟨trivial, h⟩
theorem es_gint {x : Str} {i : Int} {t : Tok} (hg : Gl X x) (hm : X.mg x = some (.int i t)) (hd : (x == ("__debug__" : Str)) = false := by decide) : ES J X W (.Name x pos) (eC (.int i)) := es_c (v := .int i) (pe_glob hg hm ⟨t, rfl⟩ hd) fun _ _ => by simp only [Den]
theorem es_gstr {x z : Str} {t : Tok} (hg : Gl X x) (hm : X.mg x = some (.str z t)) (hz : sok z = true := by decide +kernel) (hd : (x == ("__debug__" : Str)) = false := by decide) : ES J X W (.Name x pos) (eC (.str z)) := es_c (v := .str z) (pe_glob hg hm ⟨t, rfl⟩ hd) fun _ _ => by simp only [Den]; exact ⟨trivial, hz⟩
/-- an operation of two places -/
def eOp (op : Dt → Dt → Sto → Out Dt) (fa fb : Ex) : Ex := fun env => bnd (fa env) fun x => bnd (fb env) fun y => op x y
def OpS (Γ : Wd) (r : R2) (op : Dt → Dt → Sto → Out Dt) : Prop := ∀ ρ F s H x y dx dy Q E, G Γ ρ F s H → Den Γ ρ F dx x → Den Γ ρ F dy y → EPo Γ ρ F H Q E (op dx dy s) → r x y H Q
theorem tE_op {Γ : Wd} {r : R2} {op : Dt → Dt → Sto → Out Dt} (ho : OpS Γ r op) {σ : St} {H : Hp} {Q : VK} (h : tE Γ W (eOp op fa fb) σ H Q) : tOp r (tE Γ W fa) (tE Γ W fb) σ H Q := by
  obtain ⟨env, ρ, F, s, g, l, k⟩ := h
  refine ⟨env, ρ, F, s, g, l, Po.bind k fun x s1 ρ1 F1 H1 v e1 l1 g1 r1 k1 => ?_⟩
  refine ⟨env, ρ1, F1, s1, g1, l.mono l1, Po.bind k1 fun y s2 ρ2 F2 H2 u e2 l2 g2 r2 k2 => ?_⟩
  exact ho ρ2 F2 s2 H2 v u x y Q _ g2 (Den.mono l2 _ _ r1) r2 k2
theorem es_op {op : Operator} {r : R2} {f : Dt → Dt → Sto → Out Dt} (hr : OpR X (binaryOp op) r) (ho : OpS (wd J X) r f) (ha : ES J X W a fa) (hb : ES J X W b fb) : ES J X W (.BinOp a op b pos) (eOp f fa fb) :=
  PE.imp (pe_op hr ha hb) fun _ _ _ h => tE_op ho h
/-- an operation of one place -/
def eUn (op : Dt → Sto → Out Dt) (fa : Ex) : Ex := fun env => bnd (fa env) op
def UnS (Γ : Wd) (r : V → Hp → VK → Prop) (op : Dt → Sto → Out Dt) : Prop := ∀ ρ F s H x dx Q E, G Γ ρ F s H → Den Γ ρ F dx x → EPo Γ ρ F H Q E (op dx s) → r x H Q
theorem es_un {op : UnaryOp} {r : V → Hp → VK → Prop} {f : Dt → Sto → Out Dt} (hr : UnR X (unaryOp op) r) (ho : UnS (wd J X) r f) (ha : ES J X W a fa) : ES J X W (.UnaryOp op a pos) (eUn f fa) :=
  PE.imp (pe_un hr ha) fun σ H Q ⟨env, ρ, F, s, g, l, k⟩ => ⟨env, ρ, F, s, g, l, Po.bind k fun x s1 ρ1 F1 H1 v e1 l1 g1 r1 k1 => ho ρ1 F1 s1 H1 v x Q _ g1 r1 k1⟩
/-! ints -/
def iOp (g : Int → Int → Dt) (ok : Int → Int → Bool) : Dt → Dt → Sto → Out Dt
  | .int i, .int j, s => if ok i j then .ok (g i j) s else .bad
  | _, _, _ => .bad
theorem iOp_some {Γ : Wd} {C : Int → Int → Prop} {gv : Int → Int → V} {gd : Int → Int → Dt} {ok : Int → Int → Bool} (hc : ∀ i j, ok i j = true → C i j) (hd : ∀ ρ F i j, Den Γ ρ F (gd i j) (gv i j)) : OpS Γ (rI C gv) (iOp gd ok) := by
  intro ρ F s H x y dx dy Q E g rx ry k
  cases dx with
  | int i =>
    cases dy with
    | int j =>
      simp only [Den] at rx ry
      simp only [iOp] at k
      split at k
      · rename_i h
        exact ⟨i, j, rx, ry, hc _ _ h, k ρ F H _ LE.refl g (hd ρ F i j)⟩
      · exact k.elim
    | _ => exact False.elim k
  | _ => exact False.elim k
theorem iOp_all {Γ : Wd} {gv : Int → Int → V} {gd : Int → Int → Dt} (hd : ∀ ρ F i j, Den Γ ρ F (gd i j) (gv i j)) : OpS Γ (rI0 gv) (iOp gd fun _ _ => true) := by
  intro ρ F s H x y dx dy Q E g rx ry k
  cases dx with
  | int i =>
    cases dy with
    | int j =>
      simp only [Den] at rx ry
      exact ⟨i, j, rx, ry, k ρ F H _ LE.refl g (hd ρ F i j)⟩
    | _ => exact False.elim k
  | _ => exact False.elim k
abbrev dSub := iOp (fun i j => .int (i - j)) fun _ _ => true
abbrev dMul := iOp (fun i j => .int (i * j)) fun i j => decide ((-(2 ^ 64) < i ∧ i < 2 ^ 64) ∨ (-(2 ^ 64) < j ∧ j < 2 ^ 64))
abbrev dFdv := iOp (fun i j => .int (i / j)) fun _ j => decide (0 < j ∧ j < 1073741824)
abbrev dMod := iOp (fun i j => .int (i % j)) fun _ j => decide (0 < j)
abbrev dPow := iOp (fun i j => .int (i ^ j.toNat)) fun i j => decide (0 ≤ j ∧ j ≤ 1000000 ∧ i.natAbs < 2 ^ 64)
abbrev dLt := iOp (fun i j => .bl (decide (i < j))) fun _ _ => true
abbrev dLe := iOp (fun i j => .bl (decide (i ≤ j))) fun _ _ => true
abbrev dGt := iOp (fun i j => .bl (decide (j < i))) fun _ _ => true
abbrev dGe := iOp (fun i j => .bl (decide (j ≤ i))) fun _ _ => true
theorem es_sub (ha : ES J X W a fa) (hb : ES J X W b fb) : ES J X W (.BinOp a .Sub b pos) (eOp dSub fa fb) := es_op op_sub (iOp_all fun _ _ _ _ => by simp only [Den]) ha hb
theorem es_mul (ha : ES J X W a fa) (hb : ES J X W b fb) : ES J X W (.BinOp a .Mult b pos) (eOp dMul fa fb) := es_op op_mul (iOp_some (fun _ _ h => by simpa [CMul] using h) fun _ _ _ _ => by simp only [Den]) ha hb
theorem es_fdv (ha : ES J X W a fa) (hb : ES J X W b fb) : ES J X W (.BinOp a .FloorDiv b pos) (eOp dFdv fa fb) := es_op op_fdiv (iOp_some (fun _ _ h => by simpa [CDiv] using h) fun _ _ _ _ => by simp only [Den]) ha hb
theorem es_mod (ha : ES J X W a fa) (hb : ES J X W b fb) : ES J X W (.BinOp a .Mod b pos) (eOp dMod fa fb) := es_op op_mod (iOp_some (fun _ _ h => of_decide_eq_true h) fun _ _ _ _ => by simp only [Den]) ha hb
theorem es_pow (ha : ES J X W a fa) (hb : ES J X W b fb) : ES J X W (.BinOp a .Pow b pos) (eOp dPow fa fb) := es_op op_pow (iOp_some (fun _ _ h => by simpa [CPow] using h) fun _ _ _ _ => by simp only [Den]) ha hb
/-- a comparison that is known -/
def CmpOk (J : Cn) (X : Cx) (op : CmpOp) (f : Dt → Dt → Sto → Out Dt) : Prop := ∃ r, OpR X (compareOp op) r ∧ OpS (wd J X) r f
theorem c_lt : CmpOk J X .Lt dLt := ⟨_, op_lt, iOp_all fun _ _ _ _ => by simp only [Den]⟩
theorem c_le : CmpOk J X .LtE dLe := ⟨_, op_le, iOp_all fun _ _ _ _ => by simp only [Den]⟩
theorem c_gt : CmpOk J X .Gt dGt := ⟨_, op_gt, iOp_all fun _ _ _ _ => by simp only [Den]⟩
theorem c_ge : CmpOk J X .GtE dGe := ⟨_, op_ge, iOp_all fun _ _ _ _ => by simp only [Den]⟩
theorem es_cmp {op : CmpOp} {f : Dt → Dt → Sto → Out Dt} (h : CmpOk J X op f) (ha : ES J X W a fa) (hb : ES J X W b fb) (hm : behindInMarks op b = false := by rfl) : ES J X W (.Compare a [op] [b] pos) (eOp f fa fb) := by
  obtain ⟨r, hr, ho⟩ := h
  exact PE.imp (pe_cmpR hr ha hb hm) fun _ _ _ h => tE_op ho h
def dNeg : Dt → Sto → Out Dt
  | .int i, s => .ok (.int (-i)) s
  | _, _ => .bad
theorem es_neg (ha : ES J X W a fa) : ES J X W (.UnaryOp .USub a pos) (eUn dNeg fa) := es_un un_neg (fun ρ F s H x dx Q E g rx k => by
  unfold dNeg at k
  split at k
  · rename_i i
    simp only [Den] at rx
    exact ⟨i, rx, k ρ F H _ LE.refl g (by simp only [Den])⟩
  · exact k.elim) ha
/-! None -/
def isNon : Dt → Bool
  | .non => true
  | _ => false
theorem Den.isNon {Γ : Wd} {ρ : List Addr} {F : Hp} {d : Dt} {v : V} (r : Den Γ ρ F d v) : decide (v = .non) = Pd.isNon d := by
  cases d <;> simp only [Den] at r
  case tup => obtain ⟨_, a, xs, e, _⟩ := r; subst e; rfl
  case lst => obtain ⟨_, a, xs, e, _⟩ := r; subst e; rfl
  case lsk => obtain ⟨_, a, xs, e, _⟩ := r; subst e; rfl
  case obj => obtain ⟨a, e, _⟩ := r; subst e; rfl
  case exc => obtain ⟨a, xs, e, _⟩ := r; subst e; rfl
  case str => obtain ⟨e, _⟩ := r; subst e; rfl
  all_goals (subst r; rfl)
def dIsN (d : Dt) (s : Sto) : Out Dt := .ok (.bl (isNon d)) s
def dNotN (d : Dt) (s : Sto) : Out Dt := .ok (.bl (!isNon d)) s
end
end Pd
namespace Pd
open PySem L2
/-! ### data as the model compares it -/
mutual
def toPy : Dt → Option PyData
  | .non => some .none
  | .bl b => some (.bool b)
  | .int i => some (.int i)
  | .str x => some (.str x)
  | .tup l => (toPys l).map .tuple
  | .lst l => (toPys l).map .list
  | .lsk l => (toPys l).map .list
  | .obj _ => none
  | .exc _ => none
def toPys : List Dt → Option (List PyData)
  | [] => some []
  | d :: ds => match toPy d, toPys ds with
    | some a, some b => some (a :: b)
    | _, _ => none
end
def toPyS (s : Sto) (d : Dt) : Option PyData := match d with
  | .obj i => match s[i]? with
    | some (.lst l) => (toPys l).map .list
    | _ => none
  | d => toPy d
section
variable {Γ : Wd} {ρ : List Addr} {F H : Hp} {s : Sto}
mutual
theorem Den.dp (g : ∀ a o, F a = some o → H a = some o) : ∀ (d : Dt) (v : V) (p : PyData), Den Γ ρ F d v → toPy d = some p → Dp Γ.K H v p ∧ p.canLay0 = true
  | .non, v, p, h, e => by simp only [Den] at h; simp only [toPy, Option.some.injEq] at e; subst h; subst e; exact ⟨.non, rfl⟩
  | .bl b, v, p, h, e => by simp only [Den] at h; simp only [toPy, Option.some.injEq] at e; subst h; subst e; exact ⟨.bl b, rfl⟩
  | .int i, v, p, h, e => by simp only [Den] at h; simp only [toPy, Option.some.injEq] at e; subst h; subst e; exact ⟨.int i, rfl⟩
  | .str x, v, p, h, e => by
    simp only [Den] at h; simp only [toPy, Option.some.injEq] at e
    obtain ⟨h, k⟩ := h
    subst h; subst e
    unfold sok at k
    simp only [Bool.and_eq_true] at k
    exact ⟨.str x, k.1⟩
  | .tup l, v, p, h, e => by
    simp only [Den] at h; simp only [toPy, Option.map_eq_some_iff] at e
    obtain ⟨z, a, xs, e1, q, t⟩ := h
    obtain ⟨ps, e2, e3⟩ := e
    subst e1; subst e3
    obtain ⟨r1, r2⟩ := Dens.dp g l xs ps t e2
    exact ⟨.tup (SqT.of (g _ _ q)) r1, r2⟩
  | .lst l, v, p, h, e => by
    simp only [Den] at h; simp only [toPy, Option.map_eq_some_iff] at e
    obtain ⟨z, a, xs, e1, q, t⟩ := h
    obtain ⟨ps, e2, e3⟩ := e
    subst e1; subst e3
    obtain ⟨r1, r2⟩ := Dens.dp g l xs ps t e2
    exact ⟨.lst (SqL.of (g _ _ q)) r1, r2⟩
  | .lsk l, v, p, h, e => by
    simp only [Den] at h; simp only [toPy, Option.map_eq_some_iff] at e
    obtain ⟨z, a, xs, e1, q, t⟩ := h
    obtain ⟨ps, e2, e3⟩ := e
    subst e1; subst e3
    obtain ⟨r1, r2⟩ := Dens.dp g l xs ps t e2
    exact ⟨.lst (sqL_sub g q) r1, r2⟩
  | .obj _, v, p, h, e => by simp [toPy] at e
  | .exc _, v, p, h, e => by simp [toPy] at e
theorem Dens.dp (g : ∀ a o, F a = some o → H a = some o) : ∀ (d : List Dt) (v : List V) (p : List PyData), Dens Γ ρ F d v → toPys d = some p → DpAll Γ.K H v p ∧ PyData.canLayAll0 p = true
  | [], v, p, h, e => by
    simp only [Dens] at h; simp only [toPys, Option.some.injEq] at e
    subst h; subst e
    exact ⟨.nil, rfl⟩
  | d :: ds, v, p, h, e => by
    simp only [Dens] at h; simp only [toPys] at e
    obtain ⟨w, r, e1, q, t⟩ := h
    subst e1
    split at e
    · rename_i a b ha hb
      cases e
      obtain ⟨r1, r2⟩ := Den.dp g d w a q ha
      obtain ⟨r3, r4⟩ := Dens.dp g ds r b t hb
      exact ⟨.cons r1 r3, by simp only [PyData.canLayAll0, r2, r4, Bool.and_self]⟩
    · cases e
end
theorem G.dp (g : G Γ ρ F s H) {d : Dt} {v : V} {p : PyData} (h : Den Γ ρ F d v) (e : toPyS s d = some p) : Dp Γ.K H v p ∧ p.canLay0 = true := by
  cases d with
  | obj i =>
    simp only [Den] at h
    obtain ⟨a, e1, q⟩ := h
    simp only [toPyS] at e
    split at e
    · rename_i l hs
      simp only [Option.map_eq_some_iff] at e
      obtain ⟨ps, e2, e3⟩ := e
      subst e3; subst e1
      obtain ⟨z, xs, hx, t⟩ := g.at_ i a _ q hs
      obtain ⟨r1, r2⟩ := Dens.dp g.sub l xs ps t e2
      exact ⟨.lst (SqL.of hx) r1, r2⟩
    · cases e
  | _ => exact Den.dp g.sub _ v p h e
end
theorem shaped_of {p : PyData} (h1 : p.canLay0 = true) (h2 : p.depth ≤ 64) : SeqAt.shaped p = true := by
  unfold SeqAt.shaped
  rw [h1, Bool.true_and]
  exact decide_eq_true h2
def dEqB (s : Sto) (x y : Dt) : Option Bool := match toPyS s x, toPyS s y with
  | some a, some b => if a.depth ≤ 64 ∧ b.depth ≤ 64 then some (PyData.eqv a b) else none
  | _, _ => none
def ofO (s : Sto) : Option Dt → Out Dt
  | some d => .ok d s
  | none => .bad
def dEq (x y : Dt) (s : Sto) : Out Dt := ofO s ((dEqB s x y).map .bl)
def dNe (x y : Dt) (s : Sto) : Out Dt := ofO s ((dEqB s x y).map fun b => .bl (!b))
theorem dEqB_of {Γ : Wd} {ρ : List Addr} {F H : Hp} {s : Sto} (g : G Γ ρ F s H) {x y : Dt} {u v : V} {c : Bool} (hx : Den Γ ρ F x u) (hy : Den Γ ρ F y v) (e : dEqB s x y = some c) :
    ∃ a b, Dp Γ.K H u a ∧ Dp Γ.K H v b ∧ SeqAt.shaped a = true ∧ SeqAt.shaped b = true ∧ c = PyData.eqv a b := by
  unfold dEqB at e
  split at e
  · rename_i a b ha hb
    split at e
    · rename_i hd
      cases e
      obtain ⟨r1, r2⟩ := g.dp hx ha
      obtain ⟨r3, r4⟩ := g.dp hy hb
      exact ⟨a, b, r1, r3, shaped_of r2 hd.1, shaped_of r4 hd.2, rfl⟩
    · cases e
  · cases e
section
variable {J : Cn} {X : Cx} {W : WX} {a b c e : Expr} {es : List Expr} {fa fb fc : Ex} {fs : List Ex} {ft fu : Tx} {pos : Pos}
theorem Po.ofO {Γ : Wd} {ρ : List Addr} {F H : Hp} {Q : VK} {E : Value → Hp → Prop} {s : Sto} {o : Option Dt} (h : EPo Γ ρ F H Q E (ofO s o)) : ∃ d, o = some d ∧ EPo Γ ρ F H Q E (.ok d s) := by
  cases o with
  | none => exact False.elim h
  | some d => exact ⟨d, rfl, h⟩
theorem c_eq (hu : X.A.units + 64 < cLine) : CmpOk J X .Eq dEq := ⟨_, op_eqD hu, fun ρ F s H x y dx dy Q E g rx ry k => by
  obtain ⟨d, e, k⟩ := k.ofO
  obtain ⟨c, e1, e2⟩ := Option.map_eq_some_iff.mp e
  subst e2
  obtain ⟨p, q, r1, r2, s1, s2, e3⟩ := dEqB_of g rx ry e1
  refine ⟨p, q, r1, r2, s1, s2, ?_⟩
  rw [← e3]
  exact k ρ F H _ LE.refl g (by simp only [Den])⟩
theorem c_ne (hu : X.A.units + 64 < cLine) : CmpOk J X .NotEq dNe := ⟨_, op_neD hu, fun ρ F s H x y dx dy Q E g rx ry k => by
  obtain ⟨d, e, k⟩ := k.ofO
  obtain ⟨c, e1, e2⟩ := Option.map_eq_some_iff.mp e
  subst e2
  obtain ⟨p, q, r1, r2, s1, s2, e3⟩ := dEqB_of g rx ry e1
  refine ⟨p, q, r1, r2, s1, s2, ?_⟩
  rw [← e3]
  exact k ρ F H _ LE.refl g (by simp only [Den])⟩
/-! truth -/
def truD (s : Sto) : Dt → Option Bool
  | .non => some false
  | .bl b => some b
  | .int i => some (i != 0)
  | .str x => some ((x.length : Int) != 0)
  | .tup l => some (!l.isEmpty)
  | .lst l => some (!l.isEmpty)
  | .lsk l => some (!l.isEmpty)
  | .obj i => match s[i]? with
    | some (.lst l) => some (!l.isEmpty)
    | some (.dic kvs) => some (!kvs.isEmpty)
    | _ => none
  | .exc _ => none
theorem Dens.isEmpty {Γ : Wd} {ρ : List Addr} {F : Hp} {l : List Dt} {xs : List V} (h : Dens Γ ρ F l xs) : xs.isEmpty = l.isEmpty := by
  have e := h.length
  cases l <;> cases xs <;> simp_all
theorem DenK.length {κ : Type} {Γ : Wd} {ρ : List Addr} {F : Hp} : ∀ {l : List (κ × Dt)} {xs : List (κ × V)}, DenK Γ ρ F l xs → l.length = xs.length
  | [], xs, h => by rw [show xs = [] from h]; rfl
  | (k, d) :: l, xs, h => by
    obtain ⟨v, r, e, q, t⟩ := h
    rw [e, List.length_cons, List.length_cons, DenK.length t]
theorem DenK.isEmpty {κ : Type} {Γ : Wd} {ρ : List Addr} {F : Hp} {l : List (κ × Dt)} {xs : List (κ × V)} (h : DenK Γ ρ F l xs) : xs.isEmpty = l.isEmpty := by
  have e := h.length
  cases l <;> cases xs <;> simp_all
theorem sok_len {x : Str} (h : sok x = true) : x.length ≤ sizeLine := by
  unfold sok at h
  simp only [Bool.and_eq_true, decide_eq_true_eq] at h
  rw [sizeLine_eq]
  omega
theorem G.tru {Γ : Wd} {ρ : List Addr} {F H : Hp} {s : Sto} (g : G Γ ρ F s H) {d : Dt} {v : V} {k : Bool} (h : Den Γ ρ F d v) (e : truD s d = some k) : TruV Γ.K v H k := by
  cases d with
  | non => simp only [Den] at h; simp only [truD, Option.some.injEq] at e; subst h; subst e; exact rfl
  | bl b => simp only [Den] at h; simp only [truD, Option.some.injEq] at e; subst h; subst e; exact rfl
  | int i => simp only [Den] at h; simp only [truD, Option.some.injEq] at e; subst h; subst e; exact rfl
  | str x =>
    simp only [Den] at h; simp only [truD, Option.some.injEq] at e
    obtain ⟨h, hk⟩ := h
    subst h; subst e
    exact ⟨sok_len hk, rfl⟩
  | tup l =>
    simp only [truD, Option.some.injEq] at e; subst e
    obtain ⟨a, xs, e1, q, t, _⟩ := g.sqT h (l := l) rfl
    subst e1
    exact .inr (.inl ⟨xs, q, by rw [t.isEmpty]⟩)
  | lst l =>
    simp only [truD, Option.some.injEq] at e; subst e
    obtain ⟨a, xs, e1, q, t, _⟩ := g.sqL h (l := l) rfl
    subst e1
    exact .inl ⟨xs, q, by rw [t.isEmpty]⟩
  | lsk l =>
    simp only [truD, Option.some.injEq] at e; subst e
    obtain ⟨a, xs, e1, q, t, _⟩ := g.sqL h (l := l) rfl
    subst e1
    exact .inl ⟨xs, q, by rw [t.isEmpty]⟩
  | obj i =>
    simp only [Den] at h
    obtain ⟨a, e1, q⟩ := h
    subst e1
    simp only [truD] at e
    split at e
    · rename_i l hs
      cases e
      obtain ⟨z, xs, hx, t⟩ := g.at_ i a _ q hs
      exact .inl ⟨xs, SqL.of hx, by rw [t.isEmpty]⟩
    · rename_i l hs
      cases e
      obtain ⟨z, xs, hx, t⟩ := g.at_ i a _ q hs
      exact .inr (.inr ⟨xs, hx, by rw [t.isEmpty]⟩)
    · cases e
  | exc c => simp [truD] at e
def ofB (s : Sto) : Option Bool → Out Bool
  | some d => .ok d s
  | none => .bad
def tTru (f : Ex) : Tx := fun env => bnd (f env) fun d s => ofB s (truD s d)
theorem ts_tru (ha : ES J X W a fa) (he : ∀ whole, isTrue a X.env whole = (do let v ← whole; standAt a.pos; holding [v] (truthy v)) := by intro _; rfl) : TSo J X W a (tTru fa) :=
  PT.imp (pt_truth ha he) fun σ H Q ⟨env, ρ, F, s, g, l, k⟩ => ⟨env, ρ, F, s, g, l, Po.bind k fun x s1 ρ1 F1 H1 v e1 l1 g1 r1 k1 => by
    cases e : truD s1 x with
    | none => rw [e] at k1; exact False.elim k1
    | some b => rw [e] at k1; exact ⟨b, g1.tru r1 e, k1 ρ1 F1 H1 b LE.refl g1 rfl⟩⟩
def tBl (f : Ex) : Tx := fun env => bnd (f env) fun d s => match d with
  | .bl b => .ok b s
  | _ => .bad
/-- a value that is a truth, as a test, by a rule of its own -/
theorem tT_bl {Γ : Wd} {σ : St} {H : Hp} {Q : Bool → Hp → Prop} (h : tT Γ W (tBl fa) σ H Q) : tE Γ W fa σ H fun x H' => ∃ k, x = .bl k ∧ Q k H' := by
  obtain ⟨env, ρ, F, s, g, l, k⟩ := h
  refine ⟨env, ρ, F, s, g, l, Po.bind k fun x s1 ρ1 F1 H1 v e1 l1 g1 r1 k1 => ?_⟩
  cases x with
  | bl b => simp only [Den] at r1; exact ⟨b, r1, k1 ρ1 F1 H1 b LE.refl g1 rfl⟩
  | _ => exact False.elim k1
theorem ts_cmp {op : CmpOp} {f : Dt → Dt → Sto → Out Dt} (h : CmpOk J X op f) (ha : ES J X W a fa) (hb : ES J X W b fb) (hm : behindInMarks op b = false := by rfl) : TSo J X W (.Compare a [op] [b] pos) (tBl (eOp f fa fb)) := by
  obtain ⟨r, hr, ho⟩ := h
  exact PT.imp (pt_cmpR hr ha hb hm) fun σ H Q h => tE_op (Q := fun x H' => ∃ k, x = .bl k ∧ Q k H') ho (tT_bl h)
theorem ts_isN {j pos'} (ha : ES J X W a fa) : TSo J X W (.Compare a [.Is] [.Constant .none j pos'] pos) (tBl (eUn dIsN fa)) :=
  PT.imp (pt_cmp (pc_isN ha) (nobehind _ (by decide) (by decide))) fun σ H Q h => by
    obtain ⟨env, ρ, F, s, g, l, k⟩ := tT_bl h
    exact ⟨env, ρ, F, s, g, l, Po.bind k fun x s1 ρ1 F1 H1 v e1 l1 g1 r1 k1 => by
      rw [r1.isNon]
      exact k1 ρ1 F1 H1 _ LE.refl g1 (by simp only [Den])⟩
theorem ts_notN {j pos'} (ha : ES J X W a fa) : TSo J X W (.Compare a [.IsNot] [.Constant .none j pos'] pos) (tBl (eUn dNotN fa)) :=
  PT.imp (pt_cmp (pc_notN ha) (nobehind _ (by decide) (by decide))) fun σ H Q h => by
    obtain ⟨env, ρ, F, s, g, l, k⟩ := tT_bl h
    exact ⟨env, ρ, F, s, g, l, Po.bind k fun x s1 ρ1 F1 H1 v e1 l1 g1 r1 k1 => by
      rw [r1.isNon]
      exact k1 ρ1 F1 H1 _ LE.refl g1 (by simp only [Den])⟩
def tAnd (ft fu : Tx) : Tx := fun env => bnd (ft env) fun c s => if c = true then fu env s else .ok false s
def tOr (ft fu : Tx) : Tx := fun env => bnd (ft env) fun c s => if c = true then .ok true s else fu env s
def tNot (ft : Tx) : Tx := fun env => bnd (ft env) fun c s => .ok (!c) s
theorem ws_and1 (ha : TSo J X W a ft) : WSo J X W (.BoolOp .And [a] pos) ft := pw_and1 ha
theorem ws_or1 (ha : TSo J X W a ft) : WSo J X W (.BoolOp .Or [a] pos) ft := pw_or1 ha
theorem ws_and {rest : List Expr} (ha : TSo J X W a ft) (hb : WSo J X W (.BoolOp .And (b :: rest) pos) fu) : WSo J X W (.BoolOp .And (a :: b :: rest) pos) (tAnd ft fu) :=
  PW.imp (pw_and ha hb) fun σ H Q ⟨env, ρ, F, s, g, l, k⟩ => ⟨env, ρ, F, s, g, l, Po.bind k fun x s1 ρ1 F1 H1 v e1 l1 g1 r1 k1 => by
    subst r1
    cases x with
    | true => exact ⟨env, ρ1, F1, s1, g1, l.mono l1, k1⟩
    | false => exact k1 ρ1 F1 H1 false LE.refl g1 rfl⟩
theorem ws_or {rest : List Expr} (ha : TSo J X W a ft) (hb : WSo J X W (.BoolOp .Or (b :: rest) pos) fu) : WSo J X W (.BoolOp .Or (a :: b :: rest) pos) (tOr ft fu) :=
  PW.imp (pw_or ha hb) fun σ H Q ⟨env, ρ, F, s, g, l, k⟩ => ⟨env, ρ, F, s, g, l, Po.bind k fun x s1 ρ1 F1 H1 v e1 l1 g1 r1 k1 => by
    subst r1
    cases x with
    | true => exact k1 ρ1 F1 H1 true LE.refl g1 rfl
    | false => exact ⟨env, ρ1, F1, s1, g1, l.mono l1, k1⟩⟩
theorem ts_w (h : WSo J X W e ft) : TSo J X W e ft := h.pt
theorem ts_not (ha : TSo J X W a ft) : TSo J X W (.UnaryOp .Not a pos) (tNot ft) :=
  PT.imp (pt_not ha) fun σ H Q ⟨env, ρ, F, s, g, l, k⟩ => ⟨env, ρ, F, s, g, l, Po.bind k fun x s1 ρ1 F1 H1 v e1 l1 g1 r1 k1 => by
    subst r1
    exact k1 ρ1 F1 H1 _ LE.refl g1 rfl⟩
/-! and, or, not as values -/
def eAnd (fa fb : Ex) : Ex := fun env => bnd (fa env) fun d s => match truD s d with
  | some true => fb env s
  | some false => .ok d s
  | none => .bad
def eOr (fa fb : Ex) : Ex := fun env => bnd (fa env) fun d s => match truD s d with
  | some true => .ok d s
  | some false => fb env s
  | none => .bad
def eNot (fa : Ex) : Ex := fun env => bnd (fa env) fun d s => ofO s ((truD s d).map fun b => .bl (!b))
theorem es_one {op} (h : ES J X W a fa) : ES J X W (.BoolOp op [a] pos) fa := pe_one h
theorem es_and {rest : List Expr} (ha : ES J X W a fa) (hb : ES J X W (.BoolOp .And (b :: rest) pos) fb) : ES J X W (.BoolOp .And (a :: b :: rest) pos) (eAnd fa fb) :=
  PE.imp (pe_andT ha hb) fun σ H Q ⟨env, ρ, F, s, g, l, k⟩ => ⟨env, ρ, F, s, g, l, Po.bind k fun x s1 ρ1 F1 H1 v e1 l1 g1 r1 k1 => by
    cases e : truD s1 x with
    | none => rw [e] at k1; exact False.elim k1
    | some b =>
      rw [e] at k1
      refine ⟨b, g1.tru r1 e, ?_⟩
      cases b with
      | true => exact ⟨env, ρ1, F1, s1, g1, l.mono l1, k1⟩
      | false => exact k1 ρ1 F1 H1 v LE.refl g1 r1⟩
theorem es_or {rest : List Expr} (ha : ES J X W a fa) (hb : ES J X W (.BoolOp .Or (b :: rest) pos) fb) : ES J X W (.BoolOp .Or (a :: b :: rest) pos) (eOr fa fb) :=
  PE.imp (pe_orT ha hb) fun σ H Q ⟨env, ρ, F, s, g, l, k⟩ => ⟨env, ρ, F, s, g, l, Po.bind k fun x s1 ρ1 F1 H1 v e1 l1 g1 r1 k1 => by
    cases e : truD s1 x with
    | none => rw [e] at k1; exact False.elim k1
    | some b =>
      rw [e] at k1
      refine ⟨b, g1.tru r1 e, ?_⟩
      cases b with
      | true => exact k1 ρ1 F1 H1 v LE.refl g1 r1
      | false => exact ⟨env, ρ1, F1, s1, g1, l.mono l1, k1⟩⟩
theorem es_not (ha : ES J X W a fa) : ES J X W (.UnaryOp .Not a pos) (eNot fa) :=
  PE.imp (pe_notT ha) fun σ H Q ⟨env, ρ, F, s, g, l, k⟩ => ⟨env, ρ, F, s, g, l, Po.bind k fun x s1 ρ1 F1 H1 v e1 l1 g1 r1 k1 => by
    obtain ⟨d, e, k1⟩ := Po.ofO k1
    obtain ⟨b, e2, e3⟩ := Option.map_eq_some_iff.mp e
    subst e3
    exact ⟨b, g1.tru r1 e2, k1 ρ1 F1 H1 _ LE.refl g1 (by simp only [Den])⟩⟩
def eIf (ft : Tx) (fa fb : Ex) : Ex := fun env => bnd (ft env) fun c s => if c = true then fa env s else fb env s
theorem es_if (hc : TSo J X W c ft) (ha : ES J X W a fa) (hb : ES J X W b fb) : ES J X W (.IfExp c a b pos) (eIf ft fa fb) :=
  PE.imp (pe_ifExp hc ha hb) fun σ H Q ⟨env, ρ, F, s, g, l, k⟩ => ⟨env, ρ, F, s, g, l, Po.bind k fun x s1 ρ1 F1 H1 v e1 l1 g1 r1 k1 => by
    subst r1
    cases x with
    | true => exact ⟨env, ρ1, F1, s1, g1, l.mono l1, k1⟩
    | false => exact ⟨env, ρ1, F1, s1, g1, l.mono l1, k1⟩⟩
/-- a op b op' c -/
def eChain (op op' : Dt → Dt → Sto → Out Dt) (fa fb fc : Ex) : Ex := fun env => bnd (fa env) fun x => bnd (fb env) fun y => bnd (op x y) fun z s => match z with
  | .bl true => bnd (fc env) (fun w => op' y w) s
  | .bl false => .ok (.bl false) s
  | _ => .bad
theorem tE_chain {Γ : Wd} {r r' : R2} {op op' : Dt → Dt → Sto → Out Dt} (ho : OpS Γ r op) (ho' : OpS Γ r' op') {σ : St} {H : Hp} {Q : VK} (h : tE Γ W (eChain op op' fa fb fc) σ H Q) : tChain r r' (tE Γ W fa) (tE Γ W fb) (tE Γ W fc) σ H Q := by
  obtain ⟨env, ρ, F, s, g, l, k⟩ := h
  refine ⟨env, ρ, F, s, g, l, Po.bind k fun x s1 ρ1 F1 H1 v e1 l1 g1 r1 k1 => ?_⟩
  refine ⟨env, ρ1, F1, s1, g1, l.mono l1, Po.bind k1 fun y s2 ρ2 F2 H2 u e2 l2 g2 r2 k2 => ?_⟩
  refine ho ρ2 F2 s2 H2 v u x y _ _ g2 (Den.mono l2 _ _ r1) r2 (Po.bind k2 fun z s3 ρ3 F3 H3 t e3 l3 g3 r3 k3 => ?_)
  cases z with
  | bl b =>
    simp only [Den] at r3
    refine ⟨b, r3, ?_⟩
    cases b with
    | true =>
      refine ⟨env, ρ3, F3, s3, g3, (l.mono l1).mono (l2.trans l3), Po.bind k3 fun w s4 ρ4 F4 H4 q e4 l4 g4 r4 k4 => ?_⟩
      exact ho' ρ4 F4 s4 H4 u q y w Q _ g4 (Den.mono (l3.trans l4) _ _ r2) r4 k4
    | false => exact k3 ρ3 F3 H3 _ LE.refl g3 (by simp only [Den])
  | _ => exact False.elim k3
theorem last_no {op op' : CmpOp} {b c : Expr} (h : op' ≠ .In) (h2 : op' ≠ .NotIn) : lastMarks [op, op'] [b, c] = false := nobehind c h h2
theorem es_leLt (ha : ES J X W a fa) (hb : ES J X W b fb) (hc : ES J X W c fc) : ES J X W (.Compare a [.LtE, .Lt] [b, c] pos) (eChain dLe dLt fa fb fc) := PE.imp (pe_chain op_le op_lt ha hb hc (last_no (by decide) (by decide))) fun _ _ _ h => tE_chain (iOp_all fun _ _ _ _ => by simp only [Den]) (iOp_all fun _ _ _ _ => by simp only [Den]) h
theorem es_leLe (ha : ES J X W a fa) (hb : ES J X W b fb) (hc : ES J X W c fc) : ES J X W (.Compare a [.LtE, .LtE] [b, c] pos) (eChain dLe dLe fa fb fc) := PE.imp (pe_chain op_le op_le ha hb hc (last_no (by decide) (by decide))) fun _ _ _ h => tE_chain (iOp_all fun _ _ _ _ => by simp only [Den]) (iOp_all fun _ _ _ _ => by simp only [Den]) h
theorem ts_leLt (ha : ES J X W a fa) (hb : ES J X W b fb) (hc : ES J X W c fc) : TSo J X W (.Compare a [.LtE, .Lt] [b, c] pos) (tBl (eChain dLe dLt fa fb fc)) := PT.imp (pt_chain op_le op_lt ha hb hc (last_no (by decide) (by decide))) fun _ _ _ h => tE_chain (iOp_all fun _ _ _ _ => by simp only [Den]) (iOp_all fun _ _ _ _ => by simp only [Den]) (tT_bl h)
theorem ts_leLe (ha : ES J X W a fa) (hb : ES J X W b fb) (hc : ES J X W c fc) : TSo J X W (.Compare a [.LtE, .LtE] [b, c] pos) (tBl (eChain dLe dLe fa fb fc)) := PT.imp (pt_chain op_le op_le ha hb hc (last_no (by decide) (by decide))) fun _ _ _ h => tE_chain (iOp_all fun _ _ _ _ => by simp only [Den]) (iOp_all fun _ _ _ _ => by simp only [Den]) (tT_bl h)
end
end Pd
namespace Pd
open PySem L2
/-! ### flat things -/
def flatD : Dt → Bool
  | .non => true
  | .bl _ => true
  | .int _ => true
  | .str _ => true
  | _ => false
def feq : Dt → Dt → Bool
  | .non, .non => true
  | .bl a, .bl b => a == b
  | .bl a, .int b => (if a then 1 else 0) == b
  | .int a, .bl b => a == (if b then 1 else 0)
  | .int a, .int b => a == b
  | .str a, .str b => a == b
  | _, _ => false
def toVd : Dt → V
  | .bl b => .bl b
  | .int i => .int i
  | .str x => .str x
  | _ => .non
theorem eqV_toVd {d e : Dt} (h : flatD d = true) (k : flatD e = true) : eqV (toVd d) (toVd e) = feq d e := by
  cases d <;> cases e <;> first | rfl | exact Bool.noConfusion h | exact Bool.noConfusion k
theorem flatV_toVd (d : Dt) : flatV (toVd d) = true := by cases d <;> rfl
section
variable {Γ : Wd} {ρ : List Addr} {F H : Hp} {s : Sto}
theorem Den.flat {d : Dt} {v : V} (h : Den Γ ρ F d v) (k : flatD d = true) : v = toVd d := by
  cases d with
  | non => simp only [Den] at h; exact h
  | bl b => simp only [Den] at h; exact h
  | int i => simp only [Den] at h; exact h
  | str x => simp only [Den] at h; exact h.1
  | _ => simp [flatD] at k
theorem Dens.flat : ∀ {ds : List Dt} {vs : List V}, Dens Γ ρ F ds vs → ds.all flatD = true → vs = ds.map toVd
  | [], vs, h, k => by simp only [Dens] at h; exact h
  | d :: ds, vs, h, k => by
    simp only [Dens] at h
    obtain ⟨v, r, e, q, t⟩ := h
    simp only [List.all_cons, Bool.and_eq_true] at k
    rw [e, List.map_cons, q.flat k.1, Dens.flat t k.2]
end
theorem any_toVd {x : Dt} (hx : flatD x = true) : ∀ {ds : List Dt}, ds.all flatD = true → inV (toVd x) (ds.map toVd) = ds.any fun e => feq e x
  | [], _ => rfl
  | d :: ds, k => by
    simp only [List.all_cons, Bool.and_eq_true] at k
    have ih := any_toVd hx k.2
    unfold inV at ih ⊢
    rw [List.map_cons, List.any_cons, List.any_cons, ih, eqV_toVd k.1 hx]
theorem all_flat_map : ∀ ds : List Dt, (ds.map toVd).all flatV = true
  | [] => rfl
  | d :: ds => by rw [List.map_cons, List.all_cons, flatV_toVd, all_flat_map ds]; rfl
/-- x in y -/
def inB (s : Sto) (x y : Dt) : Option Bool := match y with
  | .str z => match x with
    | .str w => match w.cps.toList with
      | [c] => some (decide (c ∈ z.cps.toList))
      | _ => none
    | _ => none
  | _ => match asQ s y with
    | some l => if flatD x && l.all flatD then some (l.any fun e => feq e x) else match toPyS s x, toPyS s y with
      | some d, some (.list ds) => if d.depth ≤ 64 ∧ (PyData.list ds).depth ≤ 64 then some (ds.any fun z => PyData.eqv z d) else none
      | some d, some (.tuple ds) => if d.depth ≤ 64 ∧ (PyData.tuple ds).depth ≤ 64 then some (ds.any fun z => PyData.eqv z d) else none
      | _, _ => none
    | none => none
theorem str_one {w : Str} {c : Nat} (h : w.cps.toList = [c]) : w = ⟨#[c]⟩ := by
  cases w with
  | mk a =>
    have e : a = #[c] := by apply Array.toList_inj.mp; simpa using h
    rw [e]
def rInAll (K : PySem.W.Frag) (f : Bool → Bool) : R2 := fun x y H Q =>
  (∃ (c : Nat) (z : Str), x = .str ⟨#[c]⟩ ∧ y = .str z ∧ Q (.bl (f (decide (c ∈ z.cps.toList)))) H) ∨
  ((∃ p xs, y = .ref p ∧ (SqL K H p xs ∨ SqT K H p xs) ∧ flatV x = true ∧ xs.all flatV = true ∧ Q (.bl (f (inV x xs))) H) ∨
  ((∃ d ds, Dp K H x d ∧ Dp K H y (.list ds) ∧ SeqAt.shaped d = true ∧ SeqAt.shaped (.list ds) = true ∧ Q (.bl (f (ds.any fun z => PyData.eqv z d))) H) ∨
  ∃ d ds, Dp K H x d ∧ Dp K H y (.tuple ds) ∧ SeqAt.shaped d = true ∧ SeqAt.shaped (.tuple ds) = true ∧ Q (.bl (f (ds.any fun z => PyData.eqv z d))) H))
def rInT (K : PySem.W.Frag) (f : Bool → Bool) : R2 := fun x y H Q => ∃ d ds, Dp K H x d ∧ Dp K H y (.tuple ds) ∧ SeqAt.shaped d = true ∧ SeqAt.shaped (.tuple ds) = true ∧ Q (.bl (f (ds.any fun z => PyData.eqv z d))) H
theorem op_inT {X : Cx} (hu : X.A.units + 65 < cLine) : OpR X (compareOp .In) (rInT X.K fun b => b) := by
  intro pins s σ H x y v u Q I rx ry h
  obtain ⟨d, ds, hd, he, sd, se, q⟩ := h
  obtain ⟨as, r1⟩ := Dp.reads I d x v hd rx
  obtain ⟨bs, r2⟩ := Dp.reads I (.tuple ds) y u he ry
  exact SeqAt.in_tuple_reads r2 r1 (SeqAt.canLay_of_shaped se) (SeqAt.canLay_of_shaped sd) (PyProof.Rows.room_in_shaped sd hu) ⟨.bl _, H, I, rfl, q⟩
theorem op_notInT {X : Cx} (hu : X.A.units + 65 < cLine) : OpR X (compareOp .NotIn) (rInT X.K fun b => !b) := by
  intro pins s σ H x y v u Q I rx ry h
  obtain ⟨d, ds, hd, he, sd, se, q⟩ := h
  obtain ⟨as, r1⟩ := Dp.reads I d x v hd rx
  obtain ⟨bs, r2⟩ := Dp.reads I (.tuple ds) y u he ry
  exact SeqAt.notIn_tuple_reads r2 r1 (SeqAt.canLay_of_shaped se) (SeqAt.canLay_of_shaped sd) (PyProof.Rows.room_in_shaped sd hu) ⟨.bl _, H, I, rfl, q⟩
theorem inB_of {Γ : Wd} {f : Bool → Bool} : OpS Γ (rInAll Γ.K f) (fun x y s => ofO s ((inB s x y).map fun b => .bl (f b))) := by
  intro ρ F s H x y dx dy Q E g rx ry k
  obtain ⟨d, e, k⟩ := Po.ofO k
  obtain ⟨b, e1, e2⟩ := Option.map_eq_some_iff.mp e
  subst e2
  have fin : Q (.bl (f b)) H := k ρ F H _ LE.refl g (by simp only [Den])
  clear k e
  unfold inB at e1
  split at e1
  · rename_i z
    split at e1
    · rename_i w
      split at e1
      · rename_i c hc
        cases e1
        simp only [Den] at rx ry
        exact .inl ⟨c, z, by rw [rx.1, str_one hc], ry.1, fin⟩
      · cases e1
    · cases e1
  · split at e1
    · rename_i l hl
      split at e1
      · rename_i hf
        cases e1
        simp only [Bool.and_eq_true] at hf
        obtain ⟨a, xs, e3, q, t, _⟩ := g.sqQ ry hl
        have e4 := t.flat hf.2
        subst e4
        rw [← any_toVd hf.1 hf.2, ← rx.flat hf.1] at fin
        exact .inr (.inl ⟨a, _, e3, q, by rw [rx.flat hf.1]; exact flatV_toVd _, all_flat_map _, fin⟩)
      · split at e1
        · rename_i d' ds hd hds
          split at e1
          · rename_i hz
            cases e1
            obtain ⟨r1, r2⟩ := g.dp rx hd
            obtain ⟨r3, r4⟩ := g.dp ry hds
            exact .inr (.inr (.inl ⟨d', ds, r1, r3, shaped_of r2 hz.1, shaped_of r4 hz.2, fin⟩))
          · cases e1
        · rename_i d' ds hd hds
          split at e1
          · rename_i hz
            cases e1
            obtain ⟨r1, r2⟩ := g.dp rx hd
            obtain ⟨r3, r4⟩ := g.dp ry hds
            exact .inr (.inr (.inr ⟨d', ds, r1, r3, shaped_of r2 hz.1, shaped_of r4 hz.2, fin⟩))
          · cases e1
        · cases e1
    · cases e1
def dIn (x y : Dt) (s : Sto) : Out Dt := ofO s ((inB s x y).map fun b => .bl b)
def dNotIn (x y : Dt) (s : Sto) : Out Dt := ofO s ((inB s x y).map fun b => .bl (!b))
section
variable {J : Cn} {X : Cx} {W : WX} {a b c e : Expr} {es : List Expr} {fa fb fc : Ex} {fs : List Ex} {ft fu : Tx} {pos : Pos}
theorem c_in (hu : X.A.units + 65 < cLine) : CmpOk J X .In dIn :=
  ⟨_, OpR.or op_in_sign (OpR.or op_in_seq (OpR.or (op_inD hu) (op_inT hu))), fun ρ F s H x y dx dy Q E g rx ry k => inB_of (f := fun b => b) ρ F s H x y dx dy Q E g rx ry k⟩
theorem c_notIn (hu : X.A.units + 65 < cLine) : CmpOk J X .NotIn dNotIn :=
  ⟨_, OpR.or op_notIn_sign (OpR.or op_notIn_seq (OpR.or (op_notInD hu) (op_notInT hu))), fun ρ F s H x y dx dy Q E g rx ry k => inB_of (f := fun b => !b) ρ F s H x y dx dy Q E g rx ry k⟩
/-! ### displays -/
theorem evs_len : ∀ {fs : List Ex} {env : En} {s s' : Sto} {ds : List Dt}, evs fs env s = .ok ds s' → ds.length = fs.length
  | [], env, s, s', ds, h => by simp only [evs, Out.ok.injEq] at h; rw [← h.1]; rfl
  | f :: fs, env, s, s', ds, h => by
    simp only [evs, bnd] at h
    cases e1 : f env s with
    | ok d s1 =>
      rw [e1] at h
      simp only [] at h
      cases e2 : evs fs env s1 with
      | ok ds' s2 =>
        rw [e2] at h
        simp only [Out.ok.injEq] at h
        rw [← h.1, List.length_cons, List.length_cons, evs_len e2]
      | exc c s2 => rw [e2] at h; cases h
      | bad => rw [e2] at h; cases h
    | exc c s1 => rw [e1] at h; cases h
    | bad => rw [e1] at h; cases h
theorem as_nil : ASo J X W [] [] := PA.imp pa_nil fun σ H Q ⟨env, ρ, F, s, g, l, k⟩ => k ρ F H [] LE.refl g (by simp only [Dens])
theorem as_cons (ha : ES J X W e fa) (hr : ASo J X W es fs) (hs : starEach (e :: es) X.env = (false, eval e X.env) :: starEach es X.env := by rfl) : ASo J X W (e :: es) (fa :: fs) :=
  PA.imp (pa_cons ha hr hs) fun σ H Q ⟨env, ρ, F, s, g, l, k⟩ => ⟨env, ρ, F, s, g, l, Po.bind k fun x s1 ρ1 F1 H1 v e1 l1 g1 r1 k1 =>
    ⟨env, ρ1, F1, s1, g1, l.mono l1, Po.bind k1 fun xs s2 ρ2 F2 H2 vs e2 l2 g2 r2 k2 => k2 ρ2 F2 H2 _ LE.refl g2 (by simp only [Dens]; exact ⟨v, vs, rfl, Den.mono l2 _ _ r1, r2⟩)⟩⟩
def eTup (fs : List Ex) : Ex := fun env => bnd (evs fs env) fun ds s => .ok (.tup ds) s
theorem new_tup {Γ : Wd} {ρ : List Addr} {F H : Hp} {s : Sto} {ds : List Dt} {xs : List V} {p : Addr} {Q : VK} {E : Value → Hp → Prop} (g : G Γ ρ F s H) (t : Dens Γ ρ F ds xs) (hz : ds.length ≤ sizeLine) (hp : H p = none) (k : EPo Γ ρ F H Q E (.ok (.tup ds) s)) : Q (.ref p) (upd H p (.tup xs)) := by
  refine k ρ _ _ _ (LE.frz g hp) (g.frz _ hp) ?_
  simp only [Den]
  exact ⟨hz, p, xs, rfl, upd_same, Dens.monoD (LD.upd (g.fnone hp)) _ _ t⟩
theorem es_tup {x1} (h : ASo J X W es fs) (hz : fs.length ≤ sizeLine := by decide) : ES J X W (.Tuple es x1 pos) (eTup fs) :=
  PE.imp (pe_tup h) fun σ H Q ⟨env, ρ, F, s, g, l, k⟩ => ⟨env, ρ, F, s, g, l, Po.bind k fun ds s1 ρ1 F1 H1 xs e1 l1 g1 r1 k1 => by
    have hl : ds.length ≤ sizeLine := by rw [evs_len e1]; exact hz
    exact ⟨by rw [← r1.length]; exact hl, fun p hp => new_tup g1 r1 hl hp k1⟩⟩
/-- a new list: one that never changes, or one of the store -/
def nwF (ds : List Dt) (s : Sto) : Out Dt := .ok (.lst ds) s
def nwM (ds : List Dt) (s : Sto) : Out Dt := .ok (.obj s.length) (s ++ [.lst ds])
def IsNw (nw : List Dt → Sto → Out Dt) : Prop := nw = nwF ∨ nw = nwM
theorem new_lst {nw : List Dt → Sto → Out Dt} (n : IsNw nw) {Γ : Wd} {ρ : List Addr} {F H : Hp} {s : Sto} {ds : List Dt} {xs : List V} {p : Addr} {Q : VK} {E : Value → Hp → Prop} (g : G Γ ρ F s H) (t : Dens Γ ρ F ds xs) (hz : ds.length ≤ sizeLine) (hp : H p = none) (k : EPo Γ ρ F H Q E (nw ds s)) : Q (.ref p) (upd H p (.lst xs)) := by
  rcases n with n | n
  · subst n
    refine k ρ _ _ _ (LE.frz g hp) (g.frz _ hp) ?_
    simp only [Den]
    exact ⟨hz, p, xs, rfl, upd_same, Dens.monoD (LD.upd (g.fnone hp)) _ _ t⟩
  · subst n
    refine k (ρ ++ [p]) F _ _ (LE.new hp) (g.new hp ⟨hz, xs, upd_same, Dens.monoD LD.push _ _ t⟩) ?_
    simp only [Den]
    exact ⟨p, rfl, by rw [← g.len, List.getElem?_append_right (Nat.le_refl _), Nat.sub_self]; rfl⟩
theorem isF : IsNw nwF := .inl rfl
theorem isM : IsNw nwM := .inr rfl
def eLst (nw : List Dt → Sto → Out Dt) (fs : List Ex) : Ex := fun env => bnd (evs fs env) nw
theorem es_lst {nw : List Dt → Sto → Out Dt} (n : IsNw nw) (h : ASo J X W es fs) (hz : fs.length ≤ sizeLine := by decide) : ES J X W (.List es pos) (eLst nw fs) :=
  PE.imp (pe_lst h) fun σ H Q ⟨env, ρ, F, s, g, l, k⟩ => ⟨env, ρ, F, s, g, l, Po.bind k fun ds s1 ρ1 F1 H1 xs e1 l1 g1 r1 k1 => by
    have hl : ds.length ≤ sizeLine := by rw [evs_len e1]; exact hz
    exact ⟨by rw [← r1.length]; exact hl, fun p hp => new_lst n g1 r1 hl hp k1⟩⟩
/-! ### a[b] -/
theorem strOk_mem {z : Str} {c : Nat} (h : PyData.strOk z = true) (hc : c ∈ z.cps.toList) : c < 0x110000 := by
  unfold PyData.strOk at h
  rw [Array.all_eq_true'] at h
  have := h c (Array.mem_toList_iff.mp hc)
  simpa using this
theorem strOk_of {z : Str} (h : ∀ c ∈ z.cps.toList, c < 0x110000) : PyData.strOk z = true := by
  unfold PyData.strOk
  rw [Array.all_eq_true']
  intro c hc
  simpa using h c (Array.mem_toList_iff.mpr hc)
theorem sok_of {z : Str} (h : ∀ c ∈ z.cps.toList, c < 0x110000) (k : z.length ≤ 1000000) : sok z = true := by
  unfold sok
  rw [strOk_of h, Bool.true_and]
  exact decide_eq_true k
theorem sok_mem {z : Str} {c : Nat} (h : sok z = true) (hc : c ∈ z.cps.toList) : c < 0x110000 := by
  unfold sok at h
  simp only [Bool.and_eq_true] at h
  exact strOk_mem h.1 hc
theorem sok_le {z : Str} (h : sok z = true) : z.length ≤ 1000000 := by
  unfold sok at h
  simp only [Bool.and_eq_true, decide_eq_true_eq] at h
  exact h.2
/-- a text made of signs of another one, not longer -/
theorem sok_sub {z y : Str} (h : sok z = true) (k : ∀ c ∈ y.cps.toList, c ∈ z.cps.toList) (l : y.length ≤ z.length) : sok y = true :=
  sok_of (fun c hc => sok_mem h (k c hc)) (Nat.le_trans l (sok_le h))
theorem sok_sign {z : Str} {c : Nat} (h : sok z = true) (hc : c ∈ z.cps.toList) : sok ⟨#[c]⟩ = true :=
  sok_of (fun d hd => by simp at hd; subst hd; exact sok_mem h hc) (by show 1 ≤ 1000000; decide)
def dIx (x y : Dt) (s : Sto) : Out Dt := match y with
  | .int i => match x with
    | .str z => ofO s ((atI z.cps.toList i).map fun c => .str ⟨#[c]⟩)
    | x => ofO s ((asQ s x).bind fun l => atI l i)
  | _ => .bad
theorem Dens.atI {Γ : Wd} {ρ : List Addr} {F : Hp} {ds : List Dt} {xs : List V} {i : Int} {d : Dt} (t : Dens Γ ρ F ds xs) (h : L2.atI ds i = some d) : ∃ v, L2.atI xs i = some v ∧ Den Γ ρ F d v := by
  unfold L2.atI at h ⊢
  rw [← t.length]
  obtain ⟨j, e1, e2⟩ := Option.bind_eq_some_iff.mp h
  obtain ⟨v, e3, r⟩ := t.get e2
  exact ⟨v, by rw [e1]; exact e3, r⟩
theorem atI_mem {α : Type} {l : List α} {i : Int} {d : α} (h : L2.atI l i = some d) : d ∈ l := by
  obtain ⟨j, _, e, _⟩ := atI_get h
  exact List.mem_of_getElem? e
theorem dIx_ok {Γ : Wd} : OpS Γ (rIx Γ.K) dIx := by
  intro ρ F s H x y dx dy Q E g rx ry k
  cases dy with
  | int i =>
    simp only [Den] at ry
    unfold dIx at k
    have gen : ∀ l, asQ s dx = some l → EPo Γ ρ F H Q E (ofO s (L2.atI l i)) → rIx Γ.K x y H Q := fun l hl k => by
      obtain ⟨d, e, k⟩ := Po.ofO k
      obtain ⟨a, xs, e1, q, t, _⟩ := g.sqQ rx hl
      obtain ⟨v, e2, r⟩ := t.atI e
      have fin := k ρ F H v LE.refl g r
      rcases q with q | q
      · exact .inl ⟨a, xs, i, v, e1, ry, q, e2, fin⟩
      · exact .inr (.inl ⟨a, xs, i, v, e1, ry, q, e2, fin⟩)
    cases dx with
    | str z =>
      obtain ⟨d, e, k⟩ := Po.ofO k
      obtain ⟨c, e1, e2⟩ := Option.map_eq_some_iff.mp e
      subst e2
      simp only [Den] at rx
      exact .inr (.inr ⟨z, i, c, rx.1, ry, sok_len rx.2, e1, k ρ F H _ LE.refl g (by simp only [Den]; exact ⟨trivial, sok_sign rx.2 (atI_mem e1)⟩)⟩)
    | tup l => exact gen l rfl k
    | lst l => exact gen l rfl k
    | lsk l => exact gen l rfl k
    | obj j =>
      simp only [] at k
      cases e : asQ s (.obj j) with
      | none => rw [e] at k; exact False.elim k
      | some l => rw [e] at k; exact gen l e k
    | _ => exact False.elim k
  | _ => exact False.elim k
theorem es_ix (ha : ES J X W a fa) (hb : ES J X W b fb) (hs : PlainIx b := by exact fun _ _ => rfl) : ES J X W (.Subscript a b pos) (eOp dIx fa fb) :=
  PE.imp (pe_ix ix_seq ha hb hs) fun _ _ _ h => tE_op dIx_ok h
/-! ### slices -/
def evp : Option Ex → En → Sto → Out (Option Int)
  | none, _, s => .ok none s
  | some f, env, s => bnd (f env) (fun d s => match d with | .int i => .ok (some i) s | _ => .bad) s
def tP (Γ : Wd) (W : WX) (f : Option Ex) : TO := fun σ H Q => ∃ env ρ F s, G Γ ρ F s H ∧ Sl Γ ρ F env σ ∧ Po Γ (fun _ _ (a b : Option Int) => a = b) ρ F H Q (fun c H' => W c none σ H') (evp f env s)
abbrev OS (J : Cn) (X : Cx) (W : WX) (e : Option Expr) (f : Option Ex) : Prop := PO X e (tP (wd J X) W f)
theorem PO.imp {X : Cx} {e : Option Expr} {t t' : TO} (h : PO X e t) (k : ∀ σ H Q, t' σ H Q → t σ H Q) : PO X e t' := ⟨fun pins s σ H Q I q => h.run pins s σ H Q I (k σ H Q q)⟩
theorem os_none : OS J X W none none := PO.imp po_none fun σ H Q ⟨env, ρ, F, s, g, l, k⟩ => k ρ F H none LE.refl g rfl
theorem os_some (h : ES J X W e fa) : OS J X W (some e) (some fa) := PO.imp (po_some h) fun σ H Q ⟨env, ρ, F, s, g, l, k⟩ => ⟨env, ρ, F, s, g, l, Po.bind k fun x s1 ρ1 F1 H1 v e1 l1 g1 r1 k1 => by
  cases x with
  | int i => simp only [Den] at r1; exact ⟨i, r1, k1 ρ1 F1 H1 _ LE.refl g1 rfl⟩
  | _ => exact False.elim k1⟩
def cutD {α : Type} (xs : List α) (lo hi : Option Int) : List α := (xs.drop (HT.sIx xs.length 0 lo)).take (HT.sIx xs.length xs.length hi - HT.sIx xs.length 0 lo)
theorem cutD_length {α : Type} (xs : List α) (lo hi : Option Int) : (cutD xs lo hi).length ≤ xs.length := by
  unfold cutD
  rw [List.length_take, List.length_drop]
  omega
theorem Dens.cut {Γ : Wd} {ρ : List Addr} {F : Hp} {ds : List Dt} {xs : List V} (t : Dens Γ ρ F ds xs) (lo hi : Option Int) : Dens Γ ρ F (cutD ds lo hi) (cutV xs lo hi) := by
  unfold cutD cutV
  rw [← t.length]
  exact Dens.take _ (Dens.drop _ t)
theorem sok_cut {z : Str} (h : sok z = true) (lo hi : Option Int) : sok (cutS z lo hi) = true :=
  sok_sub h (fun c hc => by
    unfold cutS at hc
    exact List.mem_of_mem_drop (List.mem_of_mem_take (by simpa using hc))) (cutS_length z lo hi)
def dSl (nw : List Dt → Sto → Out Dt) (x : Dt) (lo hi : Option Int) (s : Sto) : Out Dt := match x with
  | .str z => .ok (.str (cutS z lo hi)) s
  | .tup l => .ok (.tup (cutD l lo hi)) s
  | x => match asL s x with
    | some l => nw (cutD l lo hi) s
    | none => .bad
def eSl (nw : List Dt → Sto → Out Dt) (fa : Ex) (lo hi : Option Ex) : Ex := fun env => bnd (fa env) fun x => bnd (evp lo env) fun l => bnd (evp hi env) fun u => dSl nw x l u
theorem cut_whole {α : Type} {xs : List α} {lo hi : Option Int} (h : HT.sIx xs.length 0 lo = 0 ∧ HT.sIx xs.length xs.length hi = xs.length) : cutD xs lo hi = xs := by
  unfold cutD
  rw [h.1, h.2, List.drop_zero, Nat.sub_zero, List.take_length]
theorem dSl_ok {Γ : Wd} {nw : List Dt → Sto → Out Dt} (n : IsNw nw) {ρ : List Addr} {F H : Hp} {s : Sto} {x : V} {d : Dt} {lo hi : Option Int} {Q : VK} {E : Value → Hp → Prop} (g : G Γ ρ F s H) (r : Den Γ ρ F d x) (k : EPo Γ ρ F H Q E (dSl nw d lo hi s)) :
    rSlL Γ.K x lo hi H Q ∨ rSlA Γ.K x lo hi H Q ∨ rSlS x lo hi H Q := by
  have gen : ∀ l, asL s d = some l → EPo Γ ρ F H Q E (nw (cutD l lo hi) s) → rSlL Γ.K x lo hi H Q := fun l hl k => by
    obtain ⟨a, xs, e1, q, t, z⟩ := g.sqL r hl
    exact ⟨a, xs, e1, q, fun p hp => new_lst n g (t.cut lo hi) (Nat.le_trans (cutD_length _ _ _) z) hp k⟩
  cases d with
  | str z =>
    simp only [Den] at r
    exact .inr (.inr ⟨z, r.1, sok_len r.2, k ρ F H _ LE.refl g (by simp only [Den]; exact ⟨trivial, sok_cut r.2 lo hi⟩)⟩)
  | tup l =>
    obtain ⟨a, xs, e1, q, t, z⟩ := g.sqT r (l := l) rfl
    refine .inr (.inl ⟨a, xs, e1, q, fun hw => ?_, fun _ p hp => new_tup g (t.cut lo hi) (Nat.le_trans (cutD_length _ _ _) z) hp k⟩)
    rw [← t.length] at hw
    have e : dSl nw (.tup l) lo hi s = .ok (.tup l) s := by show Out.ok (Dt.tup (cutD l lo hi)) s = _; rw [cut_whole hw]
    rw [e] at k
    exact k ρ F H _ LE.refl g (by rw [← e1]; exact r)
  | lst l => exact .inl (gen l rfl k)
  | lsk l => exact .inl (gen l rfl k)
  | obj j =>
    cases e : asL s (.obj j) with
    | none => simp only [dSl, e] at k; exact False.elim k
    | some l => simp only [dSl, e] at k; exact .inl (gen l e k)
  | _ => exact False.elim k
theorem es_sl {nw : List Dt → Sto → Out Dt} (n : IsNw nw) {lo hi : Option Expr} {fl fh : Option Ex} {p2 : Pos} (ha : ES J X W a fa) (hl : OS J X W lo fl) (hh : OS J X W hi fh) : ES J X W (.Subscript a (.Slice lo hi none p2) pos) (eSl nw fa fl fh) :=
  PE.imp (pe_slice (SlR.or sl_list (SlR.or sl_tupA sl_str)) ha hl hh) fun σ H Q ⟨env, ρ, F, s, g, l, k⟩ => ⟨env, ρ, F, s, g, l, Po.bind k fun x s1 ρ1 F1 H1 v e1 l1 g1 r1 k1 =>
    ⟨env, ρ1, F1, s1, g1, l.mono l1, Po.bind k1 fun lo s2 ρ2 F2 H2 lo' e2 l2 g2 r2 k2 =>
      ⟨env, ρ2, F2, s2, g2, l.mono (l1.trans l2), Po.bind k2 fun hi s3 ρ3 F3 H3 hi' e3 l3 g3 r3 k3 => by
        subst r2; subst r3
        exact dSl_ok n g3 (Den.mono (l2.trans l3) _ _ r1) k3⟩⟩⟩
end
end Pd
namespace Pd
open PySem L2
section
variable {J : Cn} {X : Cx} {W : WX} {a b c e e2 : Expr} {es : List Expr} {fa fb fc fe : Ex} {fs : List Ex} {ft fu : Tx} {pos p : Pos}
/-! ### built-ins by their names -/
def C1S (Γ : Wd) (r : List V → Hp → VK → Prop) (op : Dt → Sto → Out Dt) : Prop := ∀ ρ F s H x dx Q E, G Γ ρ F s H → Den Γ ρ F dx x → EPo Γ ρ F H Q E (op dx s) → r [x] H Q
/-- a built-in of one argument that is known -/
def B1 (J : Cn) (X : Cx) (v : Value) (op : Dt → Sto → Out Dt) : Prop := ∃ r, CallR X v r ∧ C1S (wd J X) r op
theorem es_b1 {x : Str} {id : String} {op : Dt → Sto → Out Dt} (h : B1 J X (.builtin id) op) (hg : Gl X x) (hm : X.mg x = none) (hv : bootBuiltins x = some (.builtin id)) (ha : ES J X W e fe) (hn : x ≠ "__name__" := by decide) (hdb : (x == ("__debug__" : Str)) = false := by decide)
    (he : starEach (e :: []) X.env = (false, eval e X.env) :: starEach [] X.env := by rfl) : ES J X W (.Call (.Name x p) [e] [] pos) (eUn op fe) := by
  obtain ⟨r, hc, ho⟩ := h
  exact PE.imp (pe_callB hc hg hm hv (pa_cons ha pa_nil he) hn hdb he rfl) fun σ H Q ⟨env, ρ, F, s, g, l, k⟩ => ⟨env, ρ, F, s, g, l, Po.bind k fun x s1 ρ1 F1 H1 v e1 l1 g1 r1 k1 => ho ρ1 F1 s1 H1 v x Q _ g1 r1 k1⟩
theorem es_y1 {x : Str} {id : String} {op : Dt → Sto → Out Dt} (h : B1 J X (.type id) op) (hg : Gl X x) (hm : X.mg x = none) (hv : bootBuiltins x = some (.type id)) (ha : ES J X W e fe) (hn : x ≠ "__name__" := by decide) (hdb : (x == ("__debug__" : Str)) = false := by decide)
    (he : starEach (e :: []) X.env = (false, eval e X.env) :: starEach [] X.env := by rfl) : ES J X W (.Call (.Name x p) [e] [] pos) (eUn op fe) := by
  obtain ⟨r, hc, ho⟩ := h
  exact PE.imp (pe_callTy hc hg hm hv (pa_cons ha pa_nil he) hn hdb he rfl) fun σ H Q ⟨env, ρ, F, s, g, l, k⟩ => ⟨env, ρ, F, s, g, l, Po.bind k fun x s1 ρ1 F1 H1 v e1 l1 g1 r1 k1 => ho ρ1 F1 s1 H1 v x Q _ g1 r1 k1⟩
/-- len -/
def lenD (s : Sto) (d : Dt) : Option Nat := match d with
  | .str x => some x.length
  | .obj i => match s[i]? with
    | some (.lst l) => some l.length
    | some (.dic kvs) => some kvs.length
    | some (.dit kvs) => some kvs.length
    | _ => none
  | d => (asQ s d).map (·.length)
def dLen (d : Dt) (s : Sto) : Out Dt := ofO s ((lenD s d).map fun (n : Nat) => .int n)
theorem len_dict {X : Cx} : CallR X (.builtin "len") (fun xs H Q => ∃ a kvs, xs = [.ref a] ∧ Rd H a (.dK kvs) ∧ Q (.int kvs.length) H) := by
  intro pins s σ H xs us Q I r h
  obtain ⟨a, kvs, e, hd, q⟩ := h
  subst e
  obtain ⟨u, e, ru⟩ := vals1 r
  subst e
  obtain rfl : u = Value.ref a := ru
  exact d_len I hd fun t s' I' => ⟨.int kvs.length, H, I', ⟨t, rfl⟩, q⟩
theorem b_len : B1 J X (.builtin "len") dLen := ⟨_, CallR.or call_len (CallR.or len_dict call_len_dT), fun ρ F s H x dx Q E g rx k => by
  obtain ⟨d, e, k⟩ := Po.ofO k
  obtain ⟨n, e1, e2⟩ := Option.map_eq_some_iff.mp e
  subst e2
  have fin : Q (.int n) H := k ρ F H _ LE.refl g (by simp only [Den])
  have gen : ∀ l, asQ s dx = some l → n = l.length → (∃ x' n', [x] = [x'] ∧ LenV X.K x' H n' ∧ Q (.int n') H) := fun l hl hn => by
    obtain ⟨a, xs, e1, q, t, _⟩ := g.sqQ rx hl
    subst e1
    refine ⟨_, n, rfl, ?_, fin⟩
    rw [hn, t.length]
    rcases q with q | q
    · exact .inl ⟨xs, q, rfl⟩
    · exact .inr ⟨xs, q, rfl⟩
  cases dx with
  | str z =>
    simp only [Den] at rx
    simp only [lenD, Option.some.injEq] at e1
    obtain ⟨rx, hk⟩ := rx
    subst rx; subst e1
    exact .inl ⟨_, _, rfl, ⟨sok_len hk, rfl⟩, fin⟩
  | tup l => simp [lenD, asQ] at e1; exact .inl (gen l rfl e1.symm)
  | lst l => simp [lenD, asQ, asL] at e1; exact .inl (gen l rfl e1.symm)
  | lsk l => simp [lenD, asQ, asL] at e1; exact .inl (gen l rfl e1.symm)
  | obj i =>
    simp only [lenD] at e1
    split at e1
    · rename_i l hs
      cases e1
      exact .inl (gen l (by simp only [asQ, asL, hs]) rfl)
    · rename_i l hs
      cases e1
      simp only [Den] at rx
      obtain ⟨a, e2, q⟩ := rx
      subst e2
      obtain ⟨z, vs, hx, t⟩ := g.at_ i a _ q hs
      exact .inr (.inl ⟨a, vs, rfl, .inl hx, by rw [← t.length]; exact fin⟩)
    · rename_i l hs
      cases e1
      simp only [Den] at rx
      obtain ⟨a, e2, q⟩ := rx
      subst e2
      obtain ⟨z, vs, hx, t⟩ := g.at_ i a _ q hs
      exact .inr (.inr ⟨a, vs, rfl, hx, by rw [← t.length]; exact fin⟩)
    · cases e1
  | _ => simp [lenD, asQ, asL] at e1⟩
/-- ord -/
def dOrd (d : Dt) (s : Sto) : Out Dt := match d with
  | .str x => match x.cps.toList with
    | [c] => .ok (.int c) s
    | _ => .bad
  | _ => .bad
theorem b_ord : B1 J X (.builtin "ord") dOrd := ⟨_, call_ord, fun ρ F s H x dx Q E g rx k => by
  cases dx with
  | str z =>
    simp only [Den] at rx
    simp only [dOrd] at k
    split at k
    · rename_i c hc
      obtain ⟨rx, hk⟩ := rx
      have e := str_one hc
      subst e
      exact ⟨_, by rw [rx], rfl, k ρ F H _ LE.refl g (by simp only [Den]; rfl)⟩
    · exact False.elim k
  | _ => exact False.elim k⟩
/-- all, any of a list of truths -/
def asB : List Dt → Option (List Bool)
  | [] => some []
  | .bl b :: r => (asB r).map (b :: ·)
  | _ => none
theorem Dens.bools {Γ : Wd} {ρ : List Addr} {F : Hp} : ∀ {l : List Dt} {xs : List V} {bs : List Bool}, Dens Γ ρ F l xs → asB l = some bs → xs = bs.map V.bl
  | [], xs, bs, h, e => by simp only [Dens] at h; simp only [asB, Option.some.injEq] at e; subst e; exact h
  | d :: l, xs, bs, h, e => by
    simp only [Dens] at h
    obtain ⟨v, r, e1, q, t⟩ := h
    cases d with
    | bl b =>
      simp only [asB, Option.map_eq_some_iff] at e
      obtain ⟨bs', e2, e3⟩ := e
      simp only [Den] at q
      subst e3; subst e1; subst q
      rw [Dens.bools t e2]; rfl
    | _ => simp [asB] at e
def dAll (d : Dt) (s : Sto) : Out Dt := ofO s (((asL s d).bind asB).map fun bs => .bl (bs.all id))
theorem b_all (hc : X.calm = true) : B1 J X (.builtin "all") dAll := ⟨_, cr_all hc, fun ρ F s H x dx Q E g rx k => by
  obtain ⟨d, e, k⟩ := Po.ofO k
  obtain ⟨bs, e1, e2⟩ := Option.map_eq_some_iff.mp e
  obtain ⟨l, e3, e4⟩ := Option.bind_eq_some_iff.mp e1
  subst e2
  obtain ⟨a, xs, e5, q, t, _⟩ := g.sqL rx e3
  subst e5
  have e6 := t.bools e4
  subst e6
  exact ⟨a, bs, rfl, q, k ρ F H _ LE.refl g (by simp only [Den])⟩⟩
def dInt (d : Dt) (s : Sto) : Out Dt := match d with
  | .int i => .ok (.int i) s
  | .bl b => .ok (.int (if b then 1 else 0)) s
  | _ => .bad
theorem b_int : B1 J X (.type "int") dInt := ⟨_, call_int1, fun ρ F s H x dx Q E g rx k => by
  cases dx with
  | int i => simp only [Den] at rx; subst rx; exact .inl ⟨i, rfl, k ρ F H _ LE.refl g (by simp only [Den])⟩
  | bl i => simp only [Den] at rx; subst rx; exact .inr ⟨i, rfl, k ρ F H _ LE.refl g (by simp only [Den])⟩
  | _ => exact False.elim k⟩
/-- list(x), tuple(x) of a list or a tuple -/
def dList (nw : List Dt → Sto → Out Dt) (d : Dt) (s : Sto) : Out Dt := match asQ s d with
  | some l => nw l s
  | none => .bad
theorem b_list {nw : List Dt → Sto → Out Dt} (n : IsNw nw) : B1 J X (.type "list") (dList nw) := ⟨_, call_list_of, fun ρ F s H x dx Q E g rx k => by
  unfold dList at k
  split at k
  · rename_i l hl
    obtain ⟨a, xs, e5, q, t, z⟩ := g.sqQ rx hl
    subst e5
    exact ⟨a, xs, rfl, q, fun p hp => new_lst n g t z hp k⟩
  · exact False.elim k⟩
def dTuple (d : Dt) (s : Sto) : Out Dt := ofO s ((asQ s d).map .tup)
theorem b_tuple : B1 J X (.type "tuple") dTuple := ⟨_, call_tuple_of, fun ρ F s H x dx Q E g rx k => by
  obtain ⟨d, e, k⟩ := Po.ofO k
  obtain ⟨l, e1, e2⟩ := Option.map_eq_some_iff.mp e
  subst e2
  have gen : asL s dx = some l → ∃ p ys, [x] = [V.ref p] ∧ ((SqL X.K H p ys ∧ ∀ l, H l = none → Q (.ref l) (upd H l (.tup ys))) ∨ (SqT X.K H p ys ∧ Q (.ref p) H)) := fun hl => by
    obtain ⟨a, xs, e5, q, t, z⟩ := g.sqL rx hl
    subst e5
    exact ⟨a, xs, rfl, .inl ⟨q, fun p hp => new_tup g t z hp k⟩⟩
  cases dx with
  | tup l' =>
    simp only [asQ, Option.some.injEq] at e1
    subst e1
    obtain ⟨a, xs, e6, q, t, z⟩ := g.sqT rx (l := l') rfl
    have fin := k ρ F H x LE.refl g rx
    subst e6
    exact ⟨a, xs, rfl, .inr ⟨q, fin⟩⟩
  | _ => exact gen e1⟩
end
end Pd
namespace Pd
open PySem L2
/-! ### statements -/
def sBnd {α : Type} (m : Sto → Out α) (env : En) (k : α → Sto → Res) (s : Sto) : Res := match m s with
  | .ok a s' => k a s'
  | .exc c s' => .exc c env s'
  | .bad => .bad
theorem FPo.bind {α β : Type} {Γ : Wd} {W : WX} {R1 : List Addr → Hp → α → β → Prop} {ρ : List Addr} {F H : Hp} {D : Ends} {Q1 : β → Hp → Prop} {m : Sto → Out α} {k : α → Sto → Res} {env : En} {σ : St} {s : Sto}
    (h : FPo Γ W ρ F H D (sBnd m env k s)) (sl : Sl Γ ρ F env σ) (hk : ∀ a s' ρ' F' H' v, m s = .ok a s' → LE ρ F H ρ' F' H' → G Γ ρ' F' s' H' → R1 ρ' F' a v → FPo Γ W ρ' F' H' D (k a s') → Q1 v H') : Po Γ R1 ρ F H Q1 (fun c H' => W c none σ H') (m s) := by
  unfold sBnd at h
  cases e : m s with
  | ok a s' =>
    rw [e] at h
    exact fun ρ' F' H' v l g r => hk a s' ρ' F' H' v e l g r (h.le l)
  | exc c s' =>
    rw [e] at h
    exact fun ρ' F' H' C l g r => h ρ' F' H' σ C l g (sl.mono l) r
  | bad => rw [e] at h; exact h
section
variable {J : Cn} {X : Cx} {W : WX} {a b c e e2 o : Expr} {es : List Expr} {fa fb fc fe fo : Ex} {fs : List Ex} {ft fu : Tx} {pos p : Pos} {st : Stmt} {rest : List Stmt} {f1 f2 : Sx}
def sNext : Sx := fun env s => .fl (.nx env) s
def sSeq (f g : Sx) : Sx := fun env s => match f env s with
  | .fl (.nx e) s' => g e s'
  | r => r
theorem ss_nil : SSs J X W [] sNext := PSs.imp pss_nil fun D σ H ⟨env, ρ, F, s, g, l, k⟩ => k ρ F H σ LE.refl g l
theorem ss_one (h : SS J X W st f1) : SSs J X W [st] f1 := pss_one h
theorem ss_cons (h1 : SS J X W st f1) (h2 : SSs J X W rest f2) : SSs J X W (st :: rest) (sSeq f1 f2) :=
  PSs.imp (pss_cons h1 h2) fun D σ H ⟨env, ρ, F, s, g, l, k⟩ => by
    refine ⟨env, ρ, F, s, g, l, ?_⟩
    unfold sSeq at k
    cases e : f1 env s with
    | fl f s1 =>
      rw [e] at k
      cases f with
      | nx e1 => exact fun ρ' F' H' σ' l' g' sl' => ⟨e1, ρ', F', s1, g', sl', k.le l'⟩
      | rt d => exact k
      | bk d => exact k
      | ct d => exact k
    | exc c e1 s1 => rw [e] at k; exact k
    | bad => rw [e] at k; exact k
def sExpr (f : Ex) : Sx := fun env => sBnd (f env) env fun _ s => .fl (.nx env) s
theorem ss_expr (h : ES J X W e fe) (hs : swapsWith e none pos.line X.env = pure false := by rfl) : SS J X W (.Expr e pos) (sExpr fe) :=
  PS.imp (ps_expr h hs) fun D σ H ⟨env, ρ, F, s, g, l, k⟩ => ⟨env, ρ, F, s, g, l, FPo.bind k l fun d s1 ρ1 F1 H1 v e1 l1 g1 r1 k1 => k1 ρ1 F1 H1 σ LE.refl g1 (l.mono l1)⟩
def sRet (f : Ex) : Sx := fun env => sBnd (f env) env fun d s => .fl (.rt d) s
theorem ss_ret (h : ES J X W e fe) : SS J X W (.Return (some e) pos) (sRet fe) :=
  PS.imp (ps_ret h) fun D σ H ⟨env, ρ, F, s, g, l, k⟩ => ⟨env, ρ, F, s, g, l, FPo.bind k l fun d s1 ρ1 F1 H1 v e1 l1 g1 r1 k1 => k1 ρ1 F1 H1 v LE.refl g1 r1⟩
def sIf (t : Tx) (f g : Sx) : Sx := fun env => sBnd (t env) env fun c s => if c = true then f env s else g env s
theorem ss_if {x y : List Stmt} (hc : TSo J X W c ft) (ha : SSs J X W x f1) (hb : SSs J X W y f2) : SS J X W (.If c x y pos) (sIf ft f1 f2) :=
  PS.imp (ps_if hc ha hb) fun D σ H ⟨env, ρ, F, s, g, l, k⟩ => ⟨env, ρ, F, s, g, l, FPo.bind k l fun d s1 ρ1 F1 H1 v e1 l1 g1 r1 k1 => by
    subst r1
    cases d with
    | true => exact ⟨env, ρ1, F1, s1, g1, l.mono l1, k1⟩
    | false => exact ⟨env, ρ1, F1, s1, g1, l.mono l1, k1⟩⟩
/-! targets -/
abbrev Tg := Dt → En → Sto → Option En
def tG (Γ : Wd) (is : List Nat) (tg : Tg) : TG := fun v σ H Q => ∃ env ρ F s d env', G Γ ρ F s H ∧ Sl Γ ρ F env σ ∧ Den Γ ρ F d v ∧ tg d env s = some env' ∧
  ∀ σ', Sl Γ ρ F env' σ' → σ'.length = σ.length → (∀ j, j ∉ is → σ'[j]? = σ[j]?) → Q σ' H
abbrev GS (J : Cn) (X : Cx) (tgt : Expr) (is : List Nat) (tg : Tg) : Prop := PG X tgt (tG (wd J X) is tg)
theorem PG.imp {X : Cx} {e : Expr} {t t' : TG} (h : PG X e t) (k : ∀ v σ H Q, t' v σ H Q → t v σ H Q) : PG X e t' := ⟨fun pins s σ H v u Q I r q => h.run pins s σ H v u Q I r (k v σ H Q q)⟩
def gN (i : Nat) : Tg := fun d env _ => some (env.set i (some d))
theorem gs_name {i : Nat} (h : PG X e (gName i)) : GS J X e [i] (gN i) := PG.imp h fun v σ H Q ⟨env, ρ, F, s, d, env', g, l, r, e, k⟩ => by
  unfold gN at e
  cases e
  exact k _ (l.set r i) (by rw [List.length_set]) fun j hj => by rw [List.getElem?_set_ne (fun z => hj (by rw [z]; exact List.mem_singleton_self _))]
def setAll : List Nat → List Dt → En → Option En
  | [], [], env => some env
  | i :: is, d :: ds, env => setAll is ds (env.set i (some d))
  | _, _, _ => none
theorem PGs.imp {X : Cx} {e : List Expr} {t t' : TGs} (h : PGs X e t) (k : ∀ v σ H Q, t' v σ H Q → t v σ H Q) : PGs X e t' := ⟨fun pins s σ H v u Q I r q => h.run pins s σ H v u Q I r (k v σ H Q q)⟩
def gT (is : List Nat) : Tg := fun d env _ => match d with
  | .tup l => setAll is l env
  | _ => none
/-- target = e -/
def sAsg (f : Ex) (tg : Tg) : Sx := fun env => sBnd (f env) env fun d s => match tg d env s with
  | some e => .fl (.nx e) s
  | none => .bad
theorem asg_of {Γ : Wd} {is : List Nat} {tg : Tg} {D : Ends} {σ : St} {H : Hp} (h : tS Γ W (sAsg fe tg) D σ H) : tAsg (tE Γ W fe) (tG Γ is tg) D σ H := by
  obtain ⟨env, ρ, F, s, g, l, k⟩ := h
  refine ⟨env, ρ, F, s, g, l, FPo.bind k l fun d s1 ρ1 F1 H1 v e1 l1 g1 r1 k1 => ?_⟩
  cases e : tg d env s1 with
  | none => rw [e] at k1; exact False.elim k1
  | some env' =>
    rw [e] at k1
    exact ⟨env, ρ1, F1, s1, d, env', g1, l.mono l1, r1, e, fun σ' sl _ _ => k1 ρ1 F1 H1 σ' LE.refl g1 sl⟩
theorem ss_asg {tgt : Expr} {is : List Nat} {tg : Tg} (he : ES J X W e fe) (hg : GS J X tgt is tg) (hs : swapsWithSole [tgt] e pos.line X.env = pure false := by rfl) (hw : swappedStores [tgt] e X.env = pure none := by rfl)
    (h1 : (assignEach [tgt] X.env).map (·.2) = [assign tgt X.env] := by rfl) : SS J X W (.Assign [tgt] e pos) (sAsg fe tg) := PS.imp (ps_asg he hg hs hw h1) fun D σ H h => asg_of h
/-! attributes -/
theorem zip_lookup : ∀ {names : List Str} {vs : List V} {i : Nat} {f : Str} {v : V}, names.Nodup → names[i]? = some f → vs[i]? = some v → (names.zip vs).lookup f = some v
  | [], vs, i, f, v, nd, h1, h2 => by simp at h1
  | n :: ns, [], i, f, v, nd, h1, h2 => by simp at h2
  | n :: ns, x :: xs, 0, f, v, nd, h1, h2 => by
    simp at h1 h2
    subst h1; subst h2
    simp [List.lookup]
  | n :: ns, x :: xs, i + 1, f, v, nd, h1, h2 => by
    have nd' := List.nodup_cons.mp nd
    have hne : (f == n) = false := by
      rw [beq_eq_false_iff_ne]
      intro z
      subst z
      exact nd'.1 (List.mem_of_getElem? (by simpa using h1))
    show (List.lookup f ((n, x) :: ns.zip xs)) = some v
    rw [List.lookup_cons, hne]
    exact zip_lookup nd'.2 (by simpa using h1) (by simpa using h2)
theorem zip_miss : ∀ {names : List Str} {vs : List V} {f : Str}, f ∉ names → (names.zip vs).lookup f = none
  | [], vs, f, h => by simp
  | n :: ns, [], f, h => by simp
  | n :: ns, x :: xs, f, h => by
    have hne : (f == n) = false := by
      rw [beq_eq_false_iff_ne]
      intro z
      subst z
      exact h List.mem_cons_self
    show (List.lookup f ((n, x) :: ns.zip xs)) = none
    rw [List.lookup_cons, hne]
    exact zip_miss fun z => h (List.mem_cons_of_mem _ z)
/-- a store at place i: in its place, or behind the last one -/
def putI {α : Type} (i : Nat) (d : α) (l : List α) : List α := if i < l.length then l.set i d else l ++ [d]
theorem zip_put : ∀ {names : List Str} {vs : List V} {i : Nat} {f : Str} {v : V}, names.Nodup → names[i]? = some f → i ≤ vs.length → putF f v (names.zip vs) = names.zip (putI i v vs)
  | [], vs, i, f, v, nd, h1, h2 => by simp at h1
  | n :: ns, [], i, f, v, nd, h1, h2 => by
    simp at h2
    subst h2
    simp at h1
    subst h1
    simp [putI, putF]
  | n :: ns, x :: xs, 0, f, v, nd, h1, h2 => by
    simp at h1
    subst h1
    show (if n = n then _ else _) = _
    rw [if_pos rfl]
    rfl
  | n :: ns, x :: xs, i + 1, f, v, nd, h1, h2 => by
    have nd' := List.nodup_cons.mp nd
    have hne : ¬ n = f := by
      intro z
      subst z
      exact nd'.1 (List.mem_of_getElem? (by simpa using h1))
    show (if n = f then _ else (n, x) :: putF f v (ns.zip xs)) = _
    rw [if_neg hne, zip_put nd'.2 (by simpa using h1) (by simpa using h2)]
    unfold putI
    by_cases hi : i < xs.length
    · rw [if_pos hi, if_pos (by simpa using hi)]; rfl
    · rw [if_neg hi, if_neg (by simpa using hi)]; rfl
def insD (s : Sto) (c : Nat) (d : Dt) : Option (Nat × List Dt) := match d with
  | .obj j => match s[j]? with
    | some (.ins c' ds) => if c' = c then some (j, ds) else none
    | _ => none
  | _ => none
theorem G.ins {Γ : Wd} {ρ : List Addr} {F H : Hp} {s : Sto} (g : G Γ ρ F s H) {d : Dt} {v : V} {c j : Nat} {ds : List Dt} (r : Den Γ ρ F d v) (h : insD s c d = some (j, ds)) :
    ∃ a C dx vs, v = .ref a ∧ ρ[j]? = some a ∧ s[j]? = some (.ins c ds) ∧ Γ.cl c C ∧ H a = some (.ins C dx ((Γ.J c).2.zip vs)) ∧ Dens Γ ρ F ds vs ∧ ds.length ≤ (Γ.J c).2.length ∧ (Γ.J c).2.length < 1000 := by
  unfold insD at h
  split at h
  · rename_i j'
    split at h
    · rename_i c' ds' hs
      split at h
      · rename_i hc
        cases h
        subst hc
        simp only [Den] at r
        obtain ⟨a, e, q⟩ := r
        obtain ⟨C, dx, vs, h1, h2, h3, h4⟩ := g.at_ _ a _ q hs
        exact ⟨a, C, dx, vs, e, q, hs, h1, h2, h3, h4⟩
      · cases h
    · cases h
  · cases h
/-- what of the text an attribute asks -/
structure AtF (J : Cn) (K : PySem.W.Frag) (mg : Str → Option Value) (c i : Nat) (f : Str) : Prop where
  nm : (J c).2[i]? = some f
  nd : (J c).2.Nodup
  cl : ∀ C, mg (J c).1 = some (.ref C) → Cls K C ∧ NoAttr K C f
def eFld (c i : Nat) (fo : Ex) : Ex := fun env => bnd (fo env) fun d s => ofO s ((insD s c d).bind fun p => p.2[i]?)
theorem es_fld {c i : Nat} {f : Str} (A : AtF J X.K X.mg c i f) (ho : ES J X W o fo) (hb : attributeBase o f X.env (eval o X.env) = eval o X.env := by rfl) : ES J X W (.Attribute o f pos) (eFld c i fo) :=
  PE.imp (pe_fld ho hb) fun σ H Q ⟨env, ρ, F, s, g, l, k⟩ => ⟨env, ρ, F, s, g, l, Po.bind k fun d s1 ρ1 F1 H1 v e1 l1 g1 r1 k1 => by
    obtain ⟨d', e, k1⟩ := Po.ofO k1
    obtain ⟨⟨j, ds⟩, e2, e3⟩ := Option.bind_eq_some_iff.mp e
    obtain ⟨a, C, dx, vs, h1, h2, h3, h4, h5, h6, h7⟩ := g1.ins r1 e2
    obtain ⟨u, hu, ru⟩ := h6.get e3
    obtain ⟨hc, hn⟩ := A.cl C h4
    exact ⟨a, C, dx, _, u, h1, h5, hc, hn, zip_lookup A.nd A.nm hu, k1 ρ1 F1 H1 u LE.refl g1 ru⟩⟩
theorem Dens.putI {Γ : Wd} {ρ : List Addr} {F : Hp} {ds : List Dt} {vs : List V} {d : Dt} {v : V} (t : Dens Γ ρ F ds vs) (r : Den Γ ρ F d v) (i : Nat) : Dens Γ ρ F (Pd.putI i d ds) (Pd.putI i v vs) := by
  unfold Pd.putI
  rw [← t.length]
  split
  · exact Dens.set r i t
  · exact Dens.append t (Dens.one r)
def setFD (s : Sto) (c i : Nat) (d y : Dt) : Option Sto := (insD s c d).bind fun p => if i ≤ p.2.length then some (s.set p.1 (.ins c (putI i y p.2))) else none
def sSetF (c i : Nat) (fo fv : Ex) : Sx := fun env => sBnd (fv env) env fun y => sBnd (fo env) env fun d s => match setFD s c i d y with
  | some s' => .fl (.nx env) s'
  | none => .bad
theorem putI_len {α : Type} {i n : Nat} {d : α} {l : List α} (h : i < n) (k : l.length ≤ n) (hi : i ≤ l.length) : (putI i d l).length ≤ n := by
  unfold putI
  split
  · rw [List.length_set]; exact k
  · rw [List.length_append]; simp; omega
theorem ss_setF {c i : Nat} {f : Str} {value : Expr} {fv : Ex} {pos' : Pos} (A : AtF J X.K X.mg c i f) (ho : ES J X W o fo) (hv : ES J X W value fv) (hs : swapsWith value (some (.Attribute o f pos')) pos.line X.env = pure false := by rfl) : SS J X W (.Assign [.Attribute o f pos'] value pos) (sSetF c i fo fv) :=
  PS.imp (ps_fld ho hv hs) fun D σ H ⟨env, ρ, F, s, g, l, k⟩ => ⟨env, ρ, F, s, g, l, FPo.bind k l fun y s1 ρ1 F1 H1 v e1 l1 g1 r1 k1 =>
    ⟨env, ρ1, F1, s1, g1, l.mono l1, FPo.bind k1 (l.mono l1) fun d s2 ρ2 F2 H2 u e2 l2 g2 r2 k2 => by
      cases e : setFD s2 c i d y with
      | none => rw [e] at k2; exact False.elim k2
      | some s3 =>
        rw [e] at k2
        obtain ⟨⟨j, ds⟩, e3, e4⟩ := Option.bind_eq_some_iff.mp e
        simp only [] at e4
        split at e4
        · rename_i hi
          cases e4
          obtain ⟨a, C, dx, vs, h1, h2, h3, h4, h5, h6, h7, h8⟩ := g2.ins r2 e3
          obtain ⟨hc, hn⟩ := A.cl C h4
          have hin : i < (J c).2.length := (List.getElem?_eq_some_iff.mp A.nm).1
          have hvl : vs.length = ds.length := h6.length.symm
          refine ⟨a, C, dx, _, h1, h5, hc, hn, by rw [List.length_zip]; exact Nat.lt_of_le_of_lt (Nat.min_le_left _ _) h8, ?_⟩
          rw [zip_put A.nd A.nm (by rw [hvl]; exact hi)]
          refine k2 ρ2 F2 _ σ (LE.put (List.mem_of_getElem? h2)) (g2.put h2 (fun od u e => by rw [h5] at e; cases e) ⟨C, dx, _, h4, upd_same, Dens.putI h6 (Den.mono l2 _ _ r1) i, putI_len hin h7 hi, h8⟩) ((l.mono l1).mono l2)
        · cases e4⟩⟩
end
end Pd
namespace Pd
open PySem L2
/-! ### promises -/
/-- a def's meaning -/
abbrev Fn := List Dt → Sto → Out Dt
/-- a def keeps its meaning -/
def spD (Γ : Wd) (n : Nat) (m : Fn) : Sp := fun vs H Q E => ∃ ρ F s ds, G Γ ρ F s H ∧ Dens Γ ρ F ds vs ∧ ds.length = n ∧ EPo Γ ρ F H Q (fun c H' => E c none H') (m ds s)
/-- how errors leave a def: true, raised where nothing is handled; false, any -/
def cxt (z : Bool) (P : Program) (w : World) : CXT := match z with
  | true => L2N.CX P w
  | false => L2.CX P w
def Tks (z : Bool) (X : Cx) (W : WX) : Prop := match z with
  | true => L2N.Takes X W
  | false => L2.Takes X W
theorem xeN {X : Cx} {W : WX} {u : Value} {s : Shared} (x : L2N.XE X W u s) : L2.XE X W u s := by
  obtain ⟨a, B, sI, pins, σ, H, cls, d, e1, I, nb, up, sky, r⟩ := x
  refine ⟨a, B, sI, pins, σ, H, cls, d, e1, I, nb, up, ?_, r⟩
  rcases sky with ⟨h1, h2, h3, oe, vs, h4, h5, h6⟩ | ⟨h1, h2, h3, oe, vs, T, oT, ts, h4, h5, h6⟩ | ⟨h1, h2, h3, oe, vs, T, oT, ts, h4, h5, h6⟩
  · exact .inl ⟨h1, h2, h3, oe, vs, h4, h5.zc, h6⟩
  · exact .inr (.inl ⟨h1, h2, h3, oe, vs, T, oT, ts, h4, h5.zc, h6⟩)
  · exact .inr (.inr ⟨h1, h2, h3, oe, vs, T, oT, ts, h4, h5.zc, h6⟩)
theorem Tks.up {z : Bool} {X : Cx} {W : WX} (t : Tks false X W) : Tks z X W := match z with
  | true => fun u s x => t u s (xeN x)
  | false => t
theorem Tks.pass {z : Bool} {X : Cx} {W : WX} (t : Tks z X W) (σ : St) : PassesAt (cxt z X.prog X.w) X σ (WE W σ) := match z, t with
  | true, t => L2N.passAt t σ
  | false, t => L2.passAt t σ
theorem tks_of {z : Bool} {X : Cx} {E : XK} (hs : X.stack = X.env :: X.outer) (hf : X.env.frame = some X.env.locals) (hex : X.ex = []) {E1 : Value → Shared → Prop}
    (hx : X.xe = fun e s' => wpAny (model X.prog X.w) X.A (leaving X.env e) (fun _ s'' => cxt z X.prog X.w X.outer X.H_0 X.s_0 E e s'') E1 s') : Tks z X (fun cls d _ H => E cls d H) := match z, hx with
  | true, hx => L2N.takes_of hs hf hex hx
  | false, hx => L2.takes_of hs hf hex hx
theorem tks0 {z : Bool} {X : Cx} : Tks z X (fun _ _ _ _ => False) := Tks.up (z := z) takes0
/-- a def of the program by its meaning -/
structure Df (z : Bool) (P : Program) (w : World) (K : PySem.W.Frag) (mg : Str → Option Value) (base : Heap) (J : Cn) (k n : Nat) (f : Addr) (m : Fn) : Prop where
  ok : ∃ fd ps, FnOk P w K mg base (cxt z P w) k f fd ps (spD ⟨K, mg, J, w⟩ n m) ∧ Binds K fd ps []
abbrev DfX (z : Bool) (J : Cn) (X : Cx) (k n : Nat) (f : Addr) (m : Fn) : Prop := Df z X.prog X.w X.K X.mg X.base J k n f m
section
variable {J : Cn} {X : Cx} {W : WX} {a b c e e2 o : Expr} {es : List Expr} {fa fb fc fe fo : Ex} {fs : List Ex} {ft fu : Tx} {pos p apos : Pos} {st : Stmt} {rest : List Stmt} {f1 f2 : Sx}
def eCall (m : Fn) (fs : List Ex) : Ex := fun env => bnd (evs fs env) m
theorem es_call {k f : Nat} {x : Str} {m : Fn} {z : Bool} (tk : Tks z X W) (D : DfX z J X k (fs.length + 1) f m) (hr : Room k X.A) (hg : Gl X x) (hm : X.mg x = some (.ref f)) (hk : PySem.W.keepIn X.K (.ref f) = true) (ha : ASo J X W (e :: es) (fa :: fs))
    (hdb : (x == ("__debug__" : Str)) = false := by decide) (he : starEach (e :: es) X.env = (false, eval e X.env) :: starEach es X.env := by rfl) (hpl : (backTo pos (starEach es X.env)).any (·.1) = false := by rfl) :
    ES J X W (.Call (.Name x p) (e :: es) [] pos) (eCall m (fa :: fs)) := by
  obtain ⟨fd, ps, F, hb⟩ := D.ok
  exact PE.imp (pe_callS F hr hg hm hk hb (fun σ => tk.pass σ) ha hdb he hpl) fun σ H Q ⟨env, ρ, F, s, g, l, k⟩ => ⟨env, ρ, F, s, g, l, Po.bind k fun ds s1 ρ1 F1 H1 vs e1 l1 g1 r1 k1 => ⟨ρ1, F1, s1, ds, g1, r1, evs_len e1, k1⟩⟩
/-- what of the text a method asks -/
structure MeF (J : Cn) (K : PySem.W.Frag) (mg : Str → Option Value) (c : Nat) (m : Str) (C f : Addr) : Prop where
  mg : mg (J c).1 = some (.ref C)
  no : m ∉ (J c).2
  cl : Cls K C
  me : Meth K C m f
def eMeth (c : Nat) (m : Fn) (fo : Ex) (fs : List Ex) : Ex := fun env => bnd (fo env) fun x s => match insD s c x with
  | some _ => bnd (evs fs env) (fun ds => m (x :: ds)) s
  | none => .bad
theorem meth_of {c : Nat} {mn : Str} {C f : Addr} {m : Fn} {k : Nat} {pl : Sem Bool} {z : Bool} (tk : Tks z X W) (M : MeF J X.K X.mg c mn C f) (D : DfX z J X k (fs.length + 1) f m) (hr : Room k X.A) (ho : ES J X W o fo) (ha : ASo J X W es fs)
    (hcw : ∀ (pins : List (Addr × Obj)) (σ : St) (x : Addr) (s1 : Shared) (H1 : Hp) (Q : Value → Shared → Prop), Inv X pins σ H1 s1 → tA (wd J X) W fs σ H1 (fun vs H2 => ∀ us s2, Inv X pins σ H2 s2 → Vals vs us → wpAny (model X.prog X.w) X.A (call (.ref f) (.ref x :: us)) Q X.xe s2) →
      wpAny (model X.prog X.w) X.A (callWith pos (.ref f) [.ref x] (backTo pos (starEach es X.env)) (backToKw pos (keywordEach [] X.env))) Q X.xe s1)
    (ht : eval (.Call (.Attribute o mn apos) es [] pos) X.env = (do
      let ov ← eval o X.env
      standAt apos.atName
      let (f, first) ← holding [ov] (getMethod ov mn pl)
      callWith pos f first (backTo pos (starEach es X.env)) (backToKw pos (keywordEach [] X.env)))) :
    ES J X W (.Call (.Attribute o mn apos) es [] pos) (eMeth c m fo fs) := by
  obtain ⟨fd, ps, Fk, hb⟩ := D.ok
  refine ⟨fun pins s σ H Q I h => ?_⟩
  obtain ⟨env, ρ, F, st, g, l, k⟩ := h
  refine methcall_of ho I ⟨env, ρ, F, st, g, l, Po.bind k fun d s1 ρ1 F1 H1 v e1 l1 g1 r1 k1 => ?_⟩ ht
  cases e : insD s1 c d with
  | none => rw [e] at k1; exact False.elim k1
  | some q =>
    obtain ⟨j, ds⟩ := q
    rw [e] at k1
    obtain ⟨x, C', dx, vs, h1, h2, h3, h4, h5, h6, h7⟩ := g1.ins r1 e
    have eC : C' = C := by
      have z := h4.symm.trans M.mg
      cases z
      rfl
    subst eC
    refine ⟨x, C', dx, _, f, h1, h5, M.cl, M.me, zip_miss M.no, fun s2 I2 => hcw pins σ x s2 H1 _ I2 ?_⟩
    refine ⟨env, ρ1, F1, s1, g1, l.mono l1, Po.bind k1 fun as s3 ρ3 F3 H3 ws e3 l3 g3 r3 k3 us s4 I4 rv => ?_⟩
    refine run_fnS (E := WE W) (us := .ref x :: us) (vs := .ref x :: ws) Fk hr hb (tk.pass σ) I4 (.cons rfl rv) ⟨ρ3, F3, s3, d :: as, g3, ?_, by rw [List.length_cons, evs_len e3], k3⟩
    simp only [Dens]
    exact ⟨v, ws, by rw [h1], Den.mono l3 _ _ r1, r3⟩
theorem es_meth {c : Nat} {mn : Str} {C f : Addr} {m : Fn} {k : Nat} {pl : Sem Bool} {z : Bool} (tk : Tks z X W) (M : MeF J X.K X.mg c mn C f) (D : DfX z J X k (fs.length + 2) f m) (hr : Room k X.A) (ho : ES J X W o fo) (ha : ASo J X W (e :: es) (fa :: fs))
    (hst : starEach (e :: es) X.env = (false, eval e X.env) :: starEach es X.env := by rfl) (hpl : (backTo pos (starEach es X.env)).any (·.1) = false := by rfl)
    (ht : eval (.Call (.Attribute o mn apos) (e :: es) [] pos) X.env = (do
      let ov ← eval o X.env
      standAt apos.atName
      let (f, first) ← holding [ov] (getMethod ov mn pl)
      callWith pos f first (backTo pos (starEach (e :: es) X.env)) (backToKw pos (keywordEach [] X.env))) := by rfl) :
    ES J X W (.Call (.Attribute o mn apos) (e :: es) [] pos) (eMeth c m fo (fa :: fs)) :=
  meth_of (pl := pl) tk M D hr ho ha (fun pins σ x s1 H1 Q I1 h => PySem.W.callWith_K (first := [.ref x]) (h₀ := X.base) I1.ok.mod.kin M.me.kp (thn (ha.run pos pins s1 σ H1 _ I1 h) fun us s2 ⟨vs, H2, I2, r, q⟩ => ⟨I2.kIn, q us s2 I2 r⟩) hst hpl) ht
theorem es_meth0 {c : Nat} {mn : Str} {C f : Addr} {m : Fn} {k : Nat} {pl : Sem Bool} {z : Bool} (tk : Tks z X W) (M : MeF J X.K X.mg c mn C f) (D : DfX z J X k 1 f m) (hr : Room k X.A) (ho : ES J X W o fo)
    (ht : eval (.Call (.Attribute o mn apos) [] [] pos) X.env = (do
      let ov ← eval o X.env
      standAt apos.atName
      let (f, first) ← holding [ov] (getMethod ov mn pl)
      callWith pos f first (backTo pos (starEach [] X.env)) (backToKw pos (keywordEach [] X.env))) := by rfl) :
    ES J X W (.Call (.Attribute o mn apos) [] [] pos) (eMeth c m fo []) :=
  meth_of (pl := pl) (fs := []) tk M D hr ho as_nil (fun pins σ x s1 H1 Q I1 ⟨env, ρ, F, s, g, l, k⟩ => PySem.W.callWith_K0 (first := [.ref x]) I1.kIn M.me.kp (k ρ F H1 [] LE.refl g (by simp only [Dens]) [] s1 I1 .nil)) ht
/-- what of the text the making of an object asks -/
structure MkF (J : Cn) (K : PySem.W.Frag) (mg : Str → Option Value) (c : Nat) (C f : Addr) : Prop where
  mg : mg (J c).1 = some (.ref C)
  mak : Mk K C f
  few : (J c).2.length < 1000
def eMake (c : Nat) (m : Fn) (fs : List Ex) : Ex := fun env => bnd (evs fs env) fun ds s => bnd (m (.obj s.length :: ds)) (fun _ s' => .ok (.obj s.length) s') (s ++ [.ins c []])
theorem make_of {c : Nat} {C f : Addr} {m : Fn} {k n : Nat} {z : Bool} (tk : Tks z X W) (M : MkF J X.K X.mg c C f) (D : DfX z J X k (n + 1) f m) (hr : Room (k + 1) X.A)
    (hnon : ∀ ds s d s', m ds s = .ok d s' → d = .non) {pins : List (Addr × Obj)} {σ : St} {H : Hp} {s : Shared} {ρ : List Addr} {F : Hp} {st : Sto} {ds : List Dt} {us : List Value} {vs : List V} {Q : VK} (I : Inv X pins σ H s) (r : Vals vs us) (g : G (wd J X) ρ F st H) (t : Dens (wd J X) ρ F ds vs) (hn : ds.length = n)
    (q : EPo (wd J X) ρ F H Q (fun c H' => W c none σ H') (bnd (m (.obj st.length :: ds)) (fun _ s' => .ok (.obj st.length) s') (st ++ [.ins c []]))) : wpAny (model X.prog X.w) X.A (call (.ref C) us) (EP X pins σ Q) X.xe s := by
  obtain ⟨fd, ps, Fk, hb⟩ := D.ok
  have I2 := Inv.made (C := C) I
  have n1 : H (s.heap.objs.size + 1) = none := I.hok.fresh (Nat.le_succ _)
  have n0 : H s.heap.objs.size = none := I.hok.fresh (Nat.le_refl _)
  have ne : s.heap.objs.size + 1 ≠ s.heap.objs.size := Nat.succ_ne_self _
  have g1 : G (wd J X) ρ F st (upd H s.heap.objs.size (.own (s.heap.objs.size + 1))) := g.skip _ n0
  have n1' : upd H s.heap.objs.size (.own (s.heap.objs.size + 1)) (s.heap.objs.size + 1) = none := by rw [upd_ne ne]; exact n1
  have g2 : G (wd J X) (ρ ++ [s.heap.objs.size + 1]) F (st ++ [.ins c []]) (upd (upd H s.heap.objs.size (.own (s.heap.objs.size + 1))) (s.heap.objs.size + 1) (.ins C s.heap.objs.size [])) :=
    g1.new n1' ⟨C, s.heap.objs.size, [], M.mg, by rw [upd_same]; simp, by simp only [Dens], Nat.zero_le _, M.few⟩
  have l2 : LE ρ F H (ρ ++ [s.heap.objs.size + 1]) F (upd (upd H s.heap.objs.size (.own (s.heap.objs.size + 1))) (s.heap.objs.size + 1) (.ins C s.heap.objs.size [])) := (LE.skip n0).trans (LE.new n1')
  have hob : Den (wd J X) (ρ ++ [s.heap.objs.size + 1]) F (.obj st.length) (.ref (s.heap.objs.size + 1)) := by
    simp only [Den]
    exact ⟨_, rfl, by rw [← g.len, List.getElem?_append_right (Nat.le_refl _), Nat.sub_self]; rfl⟩
  have hsp : spD (wd J X) (n + 1) m (.ref (s.heap.objs.size + 1) :: vs) (upd (upd H s.heap.objs.size (.own (s.heap.objs.size + 1))) (s.heap.objs.size + 1) (.ins C s.heap.objs.size [])) (fun v H2 => v = .non ∧ Q (.ref (s.heap.objs.size + 1)) H2) (WE W σ) := by
    refine ⟨_, F, _, .obj st.length :: ds, g2, ?_, by rw [List.length_cons, hn], ?_⟩
    · simp only [Dens]
      exact ⟨_, vs, rfl, hob, Dens.mono l2 _ _ t⟩
    · have q2 := q.mono l2 (fun _ _ z => z) fun _ _ z => z
      refine Po.bind q2 fun d s3 ρ3 F3 H3 v e3 l3 g3 r3 k3 => ?_
      have ed := hnon _ _ _ _ e3
      subst ed
      simp only [Den] at r3
      exact ⟨r3, k3 ρ3 F3 H3 _ LE.refl g3 (Den.mono l3 _ _ hob)⟩
  have r2 : Vals (V.ref (s.heap.objs.size + 1) :: vs) (Value.ref (s.heap.objs.size + 1) :: us) := .cons rfl r
  have hl : (Value.ref (s.heap.objs.size + 1) :: us).length = ps.length := by rw [← r2.length]; exact Fk.len _ _ _ _ hsp
  have b2 := hb { s with heap := (s.heap.push PySem.W.emptyDict).push (PySem.W.instObj C s.heap.objs.size) } (Value.ref (s.heap.objs.size + 1) :: us) I2.kIn (by rw [List.append_nil]; exact hl)
  rw [List.append_nil] at b2
  refine wpAny_call (make_map (f := f) I.kIn M.mak.makes M.mak.init (beq_iff_eq.mp M.mak.fn) (codeAny_mono (Fk.run _ X.stack _ _ ⟨Value.ref (s.heap.objs.size + 1) :: us, []⟩ _ _ _ (WE W σ) (hr.make C us []) (I2.env0.make C us []) b2 r2 hsp) fun rs s' hq => ?_))
  cases rs with
  | error e => exact tk.pass σ pins _ _ e s' I2 hq
  | ok fl =>
    cases fl with
    | ret u =>
      obtain ⟨v, H', I3, rv, ev, q3⟩ := I2.after hq
      subst ev
      exact ⟨rv, ⟨V.ref (s.heap.objs.size + 1), H', I3, rfl, q3⟩⟩
    | _ => exact False.elim hq
theorem es_make {c : Nat} {x : Str} {C f : Addr} {m : Fn} {k : Nat} {z : Bool} (tk : Tks z X W) (M : MkF J X.K X.mg c C f) (D : DfX z J X k (fs.length + 2) f m) (hr : Room (k + 1) X.A) (hnon : ∀ ds s d s', m ds s = .ok d s' → d = .non) (hx : (J c).1 = x) (hg : Gl X x) (ha : ASo J X W (e :: es) (fa :: fs))
    (hdb : (x == ("__debug__" : Str)) = false := by decide) (he : starEach (e :: es) X.env = (false, eval e X.env) :: starEach es X.env := by rfl) (hpl : (backTo pos (starEach es X.env)).any (·.1) = false := by rfl) :
    ES J X W (.Call (.Name x p) (e :: es) [] pos) (eMake c m (fa :: fs)) := by
  refine ⟨fun pins s σ H Q I h => ?_⟩
  obtain ⟨env, ρ, F, st, g, l, k⟩ := h
  refine wpAny_Call_Name_kw (ld_glob I hg (by rw [← hx]; exact M.mg) ?_ hdb)
  refine PySem.W.callWith_K (h₀ := X.base) I.ok.mod.kin M.mak.kp (thn (ha.run pos pins s σ H (fun vs H1 => ∀ us s1, Inv X pins σ H1 s1 → Vals vs us → wpAny (model X.prog X.w) X.A (call (.ref C) us) (EP X pins σ Q) X.xe s1) I ⟨env, ρ, F, st, g, l, Po.bind k fun ds s1 ρ1 F1 H1 vs e1 l1 g1 r1 k1 us s2 I2 rv => make_of tk M D hr hnon I2 rv g1 r1 (evs_len e1) k1⟩) fun us s1 ⟨vs, H1, I1, r, q⟩ => ⟨I1.kIn, q us s1 I1 r⟩) he hpl
/-! ### a def by its body -/
def fnOf (n : Nat) (f : Sx) : Fn := fun ds s => match f (ds.map some ++ List.replicate (n - ds.length) none) s with
  | .fl (.rt d) s' => .ok d s'
  | .fl (.nx _) s' => .ok .non s'
  | .exc c _ s' => .exc c s'
  | _ => .bad
end
theorem Dens.slots {Γ : Wd} {ρ : List Addr} {F : Hp} {ds : List Dt} {vs : List V} (t : Dens Γ ρ F ds vs) (N : List Str) : Sl Γ ρ F (ds.map some ++ List.replicate (N.length - ds.length) none) (L2.start N vs) := by
  unfold L2.start
  refine ⟨by simp [t.length], fun i d h => ?_⟩
  by_cases hi : i < ds.length
  · rw [List.getElem?_append_left (by simpa using hi), List.getElem?_map] at h
    obtain ⟨d', e1, e2⟩ := Option.map_eq_some_iff.mp h
    cases e2
    obtain ⟨v, e3, r⟩ := t.get e1
    exact ⟨v, by rw [List.getElem?_append_left (by rw [List.length_map, ← t.length]; exact hi), List.getElem?_map, e3]; rfl, r⟩
  · rw [List.getElem?_append_right (by simpa using hi), List.getElem?_replicate] at h
    split at h
    · simp at h
    · cases h
/-- the same def by a meaning that ends alike wherever the first one ends well -/
theorem Df.imp {z : Bool} {P : Program} {w : World} {K : PySem.W.Frag} {mg : Str → Option Value} {base : Heap} {J : Cn} {k n : Nat} {f : Addr} {m m' : Fn} (D : Df z P w K mg base J k n f m)
    (h : ∀ ds s, ds.length = n → m' ds s ≠ .bad → m ds s = m' ds s) : Df z P w K mg base J k n f m' := by
  obtain ⟨fd, ps, F, hb⟩ := D.ok
  refine ⟨fd, ps, F.imp fun vs H Q E ⟨ρ, Fz, s, ds, g, t, z, q⟩ => ⟨ρ, Fz, s, ds, g, t, z, ?_⟩, hb⟩
  rw [h ds s z (fun e => by rw [e] at q; exact q)]
  exact q
theorem Df.mono {z : Bool} {P : Program} {w : World} {K : PySem.W.Frag} {mg : Str → Option Value} {base : Heap} {J : Cn} {k k' n : Nat} {f : Addr} {m : Fn} (D : Df z P w K mg base J k n f m) (h : k ≤ k') : Df z P w K mg base J k' n f m := by
  obtain ⟨fd, ps, F, hb⟩ := D.ok
  exact ⟨fd, ps, F.mono h, hb⟩
theorem okC {P : Program} {w : World} {K : PySem.W.Frag} {mg : Str → Option Value} {base : Heap} {CX : CXT} {x qual : Str} {st : Stmt} {f : Addr} {fd : FuncData} {N ps : List Str} {k : Nat} {sp : Sp} (F : Fun K x qual st f fd) (S : FnScope N ps (defScope st)) (len : ∀ vs H Q E, sp vs H Q E → vs.length = ps.length)
    (hbody : ∀ (cdv : Value) (A : Around) (outer : List Env) (s : Shared) (H : Hp) (vs : List V) (Q : VK) (E : XK), Room k (A.deeper (PyProof.Rows.envOfC qual (defScope st) s.heap.objs.size f cdv)) → sp vs H Q E →
      ∃ t, PSs (cxOf CX P w K mg base N qual (defScope st) f cdv A outer s H E) (defBody st) t ∧ t { nx := fun _ H' => Q .non H', rt := Q } (L2.start N vs) H) : FnOk P w K mg base CX (k + 1) f fd ps sp := by
  obtain ⟨oc, od, kV, doc, pm, an, cdv, ct, osl, e, lk, hcd⟩ := F.ex
  subst e
  exact fn_of lk hcd S len (hbody cdv)
theorem fn_of_body {z : Bool} {P : Program} {w : World} {K : PySem.W.Frag} {mg : Str → Option Value} {base : Heap} {J : Cn} {k n : Nat} {f : Addr} {m : Fn} {fd : FuncData} {ps : List Str} {x qual : Str} {st : Stmt} {N : List Str} {fb : Sx}
    (F : Fun K x qual st f fd) (S : FnScope N ps (defScope st)) (hn : ps.length = n) (hm : m = fnOf N.length fb)
    (body : ∀ (cdv : Value) (A : Around) (outer : List Env) (s : Shared) (H : Hp) (E : XK), Room k (A.deeper (PyProof.Rows.envOfC qual (defScope st) s.heap.objs.size f cdv)) →
      SSs J (cxOf (cxt z P w) P w K mg base N qual (defScope st) f cdv A outer s H E) (fun cls d _ H' => E cls d H') (defBody st) fb) : FnOk P w K mg base (cxt z P w) (k + 1) f fd ps (spD ⟨K, mg, J, w⟩ n m) := by
  subst hn; subst hm
  refine okC F S (fun vs H Q E h => ?_) (fun cdv A outer s H vs Q E hr h => ⟨_, body cdv A outer s H E hr, ?_⟩)
  · obtain ⟨ρ, F, s, ds, g, t, z, _⟩ := h
    rw [← t.length, z]
  · obtain ⟨ρ, Fz, so, ds, g, t, z, q⟩ := h
    refine ⟨_, ρ, Fz, so, g, t.slots N, ?_⟩
    unfold fnOf at q
    cases e : fb (ds.map some ++ List.replicate (N.length - ds.length) none) so with
    | fl f s' =>
      rw [e] at q
      cases f with
      | nx e1 => exact fun ρ' F' H' σ' l' g' _ => q ρ' F' H' .non l' g' (by simp only [Den])
      | rt d => exact q
      | bk d => exact False.elim q
      | ct d => exact False.elim q
    | exc c e1 s' =>
      rw [e] at q
      exact fun ρ' F' H' σ' C l' g' _ hC => q ρ' F' H' C l' g' hC
    | bad => rw [e] at q; exact q
theorem df_of {z : Bool} {P : Program} {w : World} {K : PySem.W.Frag} {mg : Str → Option Value} {base : Heap} {J : Cn} {x qual : Str} {st : Stmt} {f : Addr} {fd : FuncData} {N ps : List Str} {k : Nat} {fb : Sx}
    (F : Fun K x qual st f fd) (S : FnScope N ps (defScope st)) (hb : Binds K fd ps [])
    (body : ∀ (cdv : Value) (A : Around) (outer : List Env) (s : Shared) (H : Hp) (E : XK), Room k (A.deeper (PyProof.Rows.envOfC qual (defScope st) s.heap.objs.size f cdv)) →
      SSs J (cxOf (cxt z P w) P w K mg base N qual (defScope st) f cdv A outer s H E) (fun cls d _ H' => E cls d H') (defBody st) fb) : Df z P w K mg base J (k + 1) ps.length f (fnOf N.length fb) :=
  ⟨fd, ps, fn_of_body F S rfl rfl body, hb⟩
/-- the law's own promise at the script -/
theorem law_sp {K : PySem.W.Frag} {mg : Str → Option Value} {J : Cn} {w : World} {m : Fn} (h : ∀ ns : List Int, ns.length ≤ 63 → ∃ s, m [.lsk (ns.map .int)] [] = .ok (.bl true) s) {H : Hp} {a : Addr} {ns : List Int} (hl : ns.length ≤ 63) (hs : SqL K H a (ns.map V.int)) :
    spD ⟨K, mg, J, w⟩ 1 m [.ref a] H (fun v _ => v = .bl true) fun _ _ _ => False := by
  obtain ⟨s, e⟩ := h ns hl
  refine ⟨[], H, [], [.lsk (ns.map .int)], ⟨fun _ _ h => h, rfl, List.nodup_nil, (fun _ h => nomatch h), (fun i a mo h => by simp at h)⟩, ?_, rfl, ?_⟩
  · simp only [Dens, Den]
    refine ⟨_, _, rfl, ⟨by rw [List.length_map, sizeLine_eq]; omega, a, _, rfl, hs, ?_⟩, rfl⟩
    clear e hl hs
    induction ns with
    | nil => simp only [List.map_nil, Dens]
    | cons n ns ih =>
      simp only [List.map_cons, Dens]
      exact ⟨_, _, rfl, by simp only [Den], ih⟩
  · rw [e]
    intro ρ' F' H' v l g r
    simp only [Den] at r
    exact r
/-! ### a body that hands back nothing -/
def NoRt (f : Sx) : Prop := ∀ env s d s', f env s ≠ .fl (.rt d) s'
theorem noRt_setF {c i : Nat} {fo fv : Ex} : NoRt (sSetF c i fo fv) := fun env s d s' h => by
  unfold sSetF sBnd at h
  split at h
  · dsimp only at h
    split at h
    · split at h <;> cases h
    · cases h
    · cases h
  · cases h
  · cases h
theorem noRt_seq {f g : Sx} (hf : NoRt f) (hg : NoRt g) : NoRt (sSeq f g) := fun env s d s' h => by
  unfold sSeq at h
  split at h
  · exact hg _ _ _ _ h
  · exact hf _ _ _ _ h
theorem noRt_fn {n : Nat} {f : Sx} (hf : NoRt f) : ∀ ds s d s', fnOf n f ds s = .ok d s' → d = .non := fun ds s d s' h => by
  unfold fnOf at h
  split at h
  · rename_i e
    exact absurd e (hf _ _ _ _)
  · cases h; rfl
  · cases h
  · cases h
theorem _root_.L2.Room.u65 {k : Nat} {A : Around} (r : L2.Room k A) : A.units + 65 < cLine := by have := r.un; omega
theorem _root_.L2.Room.u1 {k : Nat} {A : Around} (r : L2.Room k A) : A.units + 1 < cLine := by have := r.un; omega
end Pd
namespace Pd
open PySem L2
/-! ### what a loop walks -/
structure ItS (Γ : Wd) (ρ0 : List Addr) (F0 : Hp) (T : It) (l : List Dt) (ok : Sto → Prop) : Prop where
  len : l.length ≤ sizeLine
  go : ∀ (i : Nat) ρ F s H, LD ρ0 F0 ρ F → G Γ ρ F s H → ok s → i < l.length → T.go i H
  stop : ∀ (i : Nat) ρ F s H, LD ρ0 F0 ρ F → G Γ ρ F s H → ok s → i = l.length → T.stop i H
  yld : ∀ (i : Nat) ρ F s H d x H', LD ρ0 F0 ρ F → G Γ ρ F s H → ok s → l[i]? = some d → T.yld i H x H' → ∃ F', LE ρ F H ρ F' H' ∧ G Γ ρ F' s H' ∧ Den Γ ρ F' d x
abbrev Is := En → Sto → Out (List Dt × (Sto → Prop))
def tI (Γ : Wd) (W : WX) (f : Is) : TI := fun σ H R => ∃ env ρ F s, G Γ ρ F s H ∧ Sl Γ ρ F env σ ∧ Po Γ (fun ρ F (a : List Dt × (Sto → Prop)) (T : It) => ItS Γ ρ F T a.1 a.2) ρ F H R (fun c H' => W c none σ H') (f env s)
abbrev IS (J : Cn) (X : Cx) (W : WX) (tg iter : Expr) (f : Is) : Prop := PI X tg iter (tI (wd J X) W f)
theorem PI.imp {X : Cx} {tg e : Expr} {t t' : TI} (h : PI X tg e t) (k : ∀ σ H R, t' σ H R → t σ H R) : PI X tg e t' := ⟨fun pins s σ H R I q => h.run pins s σ H R I (k σ H R q)⟩
theorem PI.or {X : Cx} {tg e : Expr} {t t' : TI} (h : PI X tg e t) (h' : PI X tg e t') : PI X tg e (fun σ H R => t σ H R ∨ t' σ H R) := ⟨fun pins s σ H R I q => by
  rcases q with q | q
  · exact h.run pins s σ H R I q
  · exact h'.run pins s σ H R I q⟩
def signs (x : Str) : List Dt := x.cps.toList.map fun c => .str ⟨#[c]⟩
/-- a list, a tuple, a text -/
def iSeq (f : Ex) : Is := fun env => bnd (f env) fun d s => match d with
  | .str x => .ok (signs x, fun _ => True) s
  | d => match asQ s d with
    | some l => .ok (l, fun s' => asQ s' d = some l) s
    | none => .bad
def iRange (f : Ex) : Is := fun env => bnd (f env) fun d s => match d with
  | .int n => if n ≤ 16777216 ∧ -(2 ^ 62) ≤ n then .ok ((List.range n.toNat).map fun (k : Nat) => .int k, fun _ => True) s else .bad
  | _ => .bad
theorem its_range {Γ : Wd} {ρ : List Addr} {F : Hp} {lo : Int} {n : Nat} {l : List Dt} {ok : Sto → Prop} (hl : l = (List.range n).map fun (k : Nat) => .int (lo + k)) (hz : n ≤ sizeLine) : ItS Γ ρ F (Itr lo n) l ok where
  len := by rw [hl, List.length_map, List.length_range]; exact hz
  go := fun i _ _ _ _ _ _ _ h => by rw [hl, List.length_map, List.length_range] at h; exact h
  stop := fun i _ _ _ _ _ _ _ h => by rw [hl, List.length_map, List.length_range] at h; exact Nat.le_of_eq h.symm
  yld := fun i ρ F s H d x H' _ g _ hd y => by
    obtain ⟨e1, e2⟩ := y
    subst e1
    refine ⟨F, LE.refl, g, ?_⟩
    rw [hl, List.getElem?_map] at hd
    obtain ⟨k, e3, e4⟩ := Option.map_eq_some_iff.mp hd
    have e5 : i = k := by
      have := List.getElem?_eq_some_iff.mp e3
      obtain ⟨h1, h2⟩ := this
      simpa using h2
    subst e5; subst e4
    simp only [Den]
    exact e2
theorem its_str {Γ : Wd} {ρ : List Addr} {F : Hp} {x : Str} {ok : Sto → Prop} (hx : sok x = true) : ItS Γ ρ F (Its x) (signs x) ok where
  len := by unfold signs; rw [List.length_map]; exact (by simpa [Str.length] using sok_len hx)
  go := fun i _ _ _ _ _ _ _ h => by unfold signs at h; rw [List.length_map] at h; show i < x.cps.size; simpa using h
  stop := fun i _ _ _ _ _ _ _ h => by unfold signs at h; rw [List.length_map] at h; exact Nat.le_of_eq (by simpa using h.symm)
  yld := fun i ρ F s H d v H' _ g _ hd y => by
    obtain ⟨e1, c, e2, e3⟩ := y
    subst e1
    refine ⟨F, LE.refl, g, ?_⟩
    unfold signs at hd
    rw [List.getElem?_map] at hd
    obtain ⟨k, e4, e5⟩ := Option.map_eq_some_iff.mp hd
    have e6 : c = k := by
      have z : x.cps.toList[i]? = some c := by simpa using e2
      rw [z] at e4
      exact Option.some.inj e4
    subst e6; subst e5
    simp only [Den]
    exact ⟨e3, sok_sign hx (List.mem_of_getElem? e4)⟩
theorem its_list {Γ : Wd} {ρ : List Addr} {F : Hp} {d : Dt} {v : V} {a : Addr} {l : List Dt} (r : Den Γ ρ F d v) (e : v = .ref a) (hq : ∀ s : Sto, asQ s d = asL s d) (hz : l.length ≤ sizeLine) : ItS Γ ρ F (Itl Γ.K a) l (fun s => asQ s d = some l) where
  len := hz
  go := fun i ρ1 F1 s H ld g ok h => by
    obtain ⟨b, xs, e1, q, t, _⟩ := g.sqL (Den.monoD ld d v r) (by rw [← hq]; exact ok)
    rw [e] at e1; cases e1
    have hx : i < xs.length := by rw [← t.length]; exact h
    exact ⟨xs, xs[i], q, List.getElem?_eq_getElem hx⟩
  stop := fun i ρ1 F1 s H ld g ok h => by
    obtain ⟨b, xs, e1, q, t, _⟩ := g.sqL (Den.monoD ld d v r) (by rw [← hq]; exact ok)
    rw [e] at e1; cases e1
    exact ⟨xs, q, by rw [← t.length]; exact Nat.le_of_eq h.symm⟩
  yld := fun i ρ1 F1 s H d' x H' ld g ok hd y => by
    obtain ⟨b, xs, e1, q, t, _⟩ := g.sqL (Den.monoD ld d v r) (by rw [← hq]; exact ok)
    rw [e] at e1; cases e1
    obtain ⟨e2, hy⟩ := y
    subst e2
    obtain ⟨u, e3, ru⟩ := t.get hd
    rw [hy xs q] at e3
    cases e3
    exact ⟨F1, LE.refl, g, ru⟩
theorem its_tup {Γ : Wd} {ρ : List Addr} {F : Hp} {v : V} {a : Addr} {l : List Dt} {ok : Sto → Prop} (r : Den Γ ρ F (.tup l) v) (e : v = .ref a) (hz : l.length ≤ sizeLine) : ItS Γ ρ F (Itt Γ.K a) l ok where
  len := hz
  go := fun i ρ1 F1 s H ld g _ h => by
    obtain ⟨b, xs, e1, q, t, _⟩ := g.sqT (Den.monoD ld _ v r) (l := l) rfl
    rw [e] at e1; cases e1
    have hx : i < xs.length := by rw [← t.length]; exact h
    exact ⟨xs, xs[i], q, List.getElem?_eq_getElem hx⟩
  stop := fun i ρ1 F1 s H ld g _ h => by
    obtain ⟨b, xs, e1, q, t, _⟩ := g.sqT (Den.monoD ld _ v r) (l := l) rfl
    rw [e] at e1; cases e1
    exact ⟨xs, q, by rw [← t.length]; exact Nat.le_of_eq h.symm⟩
  yld := fun i ρ1 F1 s H d' x H' ld g _ hd y => by
    obtain ⟨b, xs, e1, q, t, _⟩ := g.sqT (Den.monoD ld _ v r) (l := l) rfl
    rw [e] at e1; cases e1
    obtain ⟨e2, hy⟩ := y
    subst e2
    obtain ⟨u, e3, ru⟩ := t.get hd
    rw [hy xs q] at e3
    cases e3
    exact ⟨F1, LE.refl, g, ru⟩
section
variable {J : Cn} {X : Cx} {W : WX} {a b c e e2 o tgt : Expr} {es : List Expr} {fa fb fc fe fo : Ex} {fs : List Ex} {ft fu : Tx} {pos p : Pos} {st : Stmt} {rest : List Stmt} {f1 f2 : Sx}
theorem is_seq (h : ES J X W e fe) : IS J X W tgt e (iSeq fe) :=
  PI.imp (PI.or (pi_list h) (PI.or (pi_tup h) (pi_str h))) fun σ H R ⟨env, ρ, F, s, g, l, k⟩ => by
    unfold iSeq at k
    have case_bad : fe env s = .bad → False := fun e => by unfold bnd at k; rw [e] at k; exact k
    cases ev : fe env s with
    | bad => exact (case_bad ev).elim
    | exc c s1 =>
      unfold bnd at k
      rw [ev] at k
      exact .inl ⟨env, ρ, F, s, g, l, by rw [ev]; exact k⟩
    | ok d s1 =>
      have k' := k
      unfold bnd at k'
      rw [ev] at k'
      have gen : (∀ s, asQ s d = asL s d) → ∀ l', asQ s1 d = some l' → Po (wd J X) (fun ρ F (a : List Dt × (Sto → Prop)) (T : It) => ItS (wd J X) ρ F T a.1 a.2) ρ F H R (fun c H' => W c none σ H') (.ok (l', fun s' => asQ s' d = some l') s1) → iList X.K (tE (wd J X) W fe) σ H R := fun hq l' hl kk =>
        ⟨env, ρ, F, s, g, l, by
          rw [ev]
          exact fun ρ1 F1 H1 v l1 g1 r1 => by
            obtain ⟨x, xs, e1, q, t, z⟩ := g1.sqL r1 (by rw [← hq]; exact hl)
            exact ⟨x, e1, ⟨xs, q⟩, kk ρ1 F1 H1 _ l1 g1 (its_list r1 e1 hq z)⟩⟩
      cases d with
      | str z =>
        refine .inr (.inr ⟨env, ρ, F, s, g, l, ?_⟩)
        rw [ev]
        exact fun ρ1 F1 H1 v l1 g1 r1 => by
          simp only [Den] at r1
          exact ⟨z, r1.1, k' ρ1 F1 H1 _ l1 g1 (its_str r1.2)⟩
      | tup l' =>
        refine .inr (.inl ⟨env, ρ, F, s, g, l, ?_⟩)
        rw [ev]
        exact fun ρ1 F1 H1 v l1 g1 r1 => by
          obtain ⟨x, xs, e1, q, t, z⟩ := g1.sqT r1 (l := l') rfl
          exact ⟨x, e1, ⟨xs, q⟩, k' ρ1 F1 H1 _ l1 g1 (its_tup r1 e1 z)⟩
      | lst l' => exact .inl (gen (fun _ => rfl) l' rfl k')
      | lsk l' => exact .inl (gen (fun _ => rfl) l' rfl k')
      | obj j =>
        simp only [] at k'
        cases eq : asQ s1 (.obj j) with
        | none => rw [eq] at k'; exact False.elim k'
        | some l' => rw [eq] at k'; exact .inl (gen (fun _ => rfl) l' eq k')
      | _ => exact False.elim k'
theorem is_range (hg : Gl X "range") (hm : X.mg "range" = none) (h : ES J X W e fe) (hs : starEach [e] X.env = [(false, eval e X.env)] := by rfl) : IS J X W tgt (.Call (.Name "range" p) [e] [] pos) (iRange fe) :=
  PI.imp (pi_range1 hg hm (pa_cons h pa_nil hs) hs) fun σ H R ⟨env, ρ, F, s, g, l, k⟩ => ⟨env, ρ, F, s, g, l, Po.bind k fun d s1 ρ1 F1 H1 v e1 l1 g1 r1 k1 => by
    cases d with
    | int n =>
      simp only [] at k1
      split at k1
      · rename_i hz
        simp only [Den] at r1
        exact ⟨n, by rw [r1], hz.2, by omega, k1 ρ1 F1 H1 _ LE.refl g1 (its_range (by simp) (by rw [sizeLine_eq]; omega))⟩
      · exact False.elim k1
    | _ => exact False.elim k1⟩
/-! ### for, while -/
open Classical in
noncomputable def forGo (tg : Tg) (body : Sx) (ok : Sto → Prop) : List Dt → Sx
  | [], env, s => if ok s then .fl (.nx env) s else .bad
  | d :: r, env, s => if ok s then match tg d env s with
      | some env1 => match body env1 s with
        | .fl (.nx e) s' => forGo tg body ok r e s'
        | .fl (.ct e) s' => forGo tg body ok r e s'
        | .fl (.bk e) s' => .fl (.nx e) s'
        | .fl (.rt d) s' => .fl (.rt d) s'
        | .exc c e s' => .exc c e s'
        | .bad => .bad
      | none => .bad
    else .bad
noncomputable def sFor (fi : Is) (tg : Tg) (body : Sx) : Sx := fun env => sBnd (fi env) env fun p => forGo tg body p.2 p.1 env
theorem ss_for {iter : Expr} {body : List Stmt} {fi : Is} {is : List Nat} {tg : Tg} (hp : PassesOwn (model X.prog X.w) X.A X.env X.xe) (hc : X.calm = true) (hi : IS J X W tgt iter fi) (hg : GS J X tgt is tg) (hb : SSs J X W body f1)
    (hs : ∀ x, foldedSetIterable iter X.env x = pure x := by intro _; rfl) : SS J X W (.For tgt iter body [] pos) (sFor fi tg f1) :=
  PS.imp (ps_for hp hc hi hg hb hs) fun D σ H ⟨env, ρ, F, s, g, l, k⟩ => ⟨env, ρ, F, s, g, l, FPo.bind k l fun q s1 ρ1 F1 H1 T e1 l1 g1 r1 k1 => by
    obtain ⟨its, ok⟩ := q
    refine ⟨fun i m σ H => i ≤ its.length ∧ m = its.length - i ∧ ∃ env ρ F s, LE ρ1 F1 H1 ρ F H ∧ G (wd J X) ρ F s H ∧ Sl (wd J X) ρ F env σ ∧ FPo (wd J X) W ρ F H D (forGo tg f1 ok (its.drop i) env s), ⟨_, Nat.zero_le _, rfl, env, ρ1, F1, s1, LE.refl, g1, l.mono l1, k1⟩, ?_⟩
    rintro i m σ2 H2 ⟨hi, em, env2, ρ2, F2, s2, l2, g2, sl2, k2⟩
    by_cases hlt : i < its.length
    · obtain ⟨d, hd⟩ : ∃ d, its[i]? = some d := ⟨its[i], List.getElem?_eq_getElem hlt⟩
      have hdr : its.drop i = d :: its.drop (i + 1) := by
        rw [List.drop_eq_getElem_cons hlt]
        congr 1
        have := List.getElem?_eq_some_iff.mp hd
        exact this.2
      rw [hdr] at k2
      simp only [forGo] at k2
      split at k2
      · rename_i hok
        cases et : tg d env2 s2 with
        | none => rw [et] at k2; exact False.elim k2
        | some env3 =>
          rw [et] at k2
          simp only [] at k2
          refine .inr ⟨r1.go i ρ2 F2 s2 H2 l2.ld g2 hok hlt, fun σ' H' => i + 1 ≤ its.length ∧ its.length - (i + 1) = its.length - (i + 1) ∧ ∃ env ρ F s, LE ρ1 F1 H1 ρ F H' ∧ G (wd J X) ρ F s H' ∧ Sl (wd J X) ρ F env σ' ∧ FPo (wd J X) W ρ F H' D (forGo tg f1 ok (its.drop (i + 1)) env s), fun σ' H' hN => ⟨its.length - (i + 1), by rw [em]; omega, hN⟩, fun x H' hy => ?_⟩
          obtain ⟨F3, l3, g3, rd⟩ := r1.yld i ρ2 F2 s2 H2 d x H' l2.ld g2 hok hd hy
          refine ⟨env2, ρ2, F3, s2, d, env3, g3, sl2.mono l3, rd, et, fun σ4 sl4 _ _ => ⟨env3, ρ2, F3, s2, g3, sl4, ?_⟩⟩
          have k3 := k2.le l3
          cases eb : f1 env3 s2 with
          | fl f s4 =>
            rw [eb] at k3
            cases f with
            | nx e4 => exact fun ρ5 F5 H5 σ5 l5 g5 sl5 => ⟨hlt, rfl, e4, ρ5, F5, s4, (l2.trans l3).trans l5, g5, sl5, k3.le l5⟩
            | ct e4 => exact fun ρ5 F5 H5 σ5 l5 g5 sl5 => ⟨hlt, rfl, e4, ρ5, F5, s4, (l2.trans l3).trans l5, g5, sl5, k3.le l5⟩
            | rt d4 => exact k3
            | bk e4 => exact k3
          | exc c4 e4 s4 => rw [eb] at k3; exact k3
          | bad => rw [eb] at k3; exact k3
      · exact False.elim k2
    · have hie : i = its.length := by omega
      have hdr : its.drop i = [] := List.drop_eq_nil_of_le (by omega)
      rw [hdr] at k2
      simp only [forGo] at k2
      split at k2
      · rename_i hok
        exact .inl ⟨r1.stop i ρ2 F2 s2 H2 l2.ld g2 hok hie, k2 ρ2 F2 H2 σ2 LE.refl g2 sl2⟩
      · exact False.elim k2⟩
def whGo (t : Tx) (body : Sx) : Nat → Sx
  | 0, _, _ => .bad
  | n + 1, env, s => sBnd (t env) env (fun c s1 => if c = true then (match body env s1 with
      | .fl (.nx e) s' => whGo t body n e s'
      | .fl (.ct e) s' => whGo t body n e s'
      | .fl (.bk e) s' => .fl (.nx e) s'
      | .fl (.rt d) s' => .fl (.rt d) s'
      | .exc c e s' => .exc c e s'
      | .bad => .bad) else .fl (.nx env) s1) s
theorem ss_while {body : List Stmt} (n : Nat) (hp : PassesOwn (model X.prog X.w) X.A X.env X.xe) (hc : TSo J X W c ft) (hb : SSs J X W body f1) : SS J X W (.While c body [] pos) (whGo ft f1 n) :=
  PS.imp (ps_while hp hc hb) fun D σ H ⟨env, ρ, F, s, g, l, k⟩ => by
    refine ⟨fun m σ H => ∃ env ρ F s, G (wd J X) ρ F s H ∧ Sl (wd J X) ρ F env σ ∧ FPo (wd J X) W ρ F H D (whGo ft f1 m env s), ⟨n, env, ρ, F, s, g, l, k⟩, ?_⟩
    rintro m σ2 H2 ⟨env2, ρ2, F2, s2, g2, sl2, k2⟩
    cases m with
    | zero => exact False.elim k2
    | succ m =>
      simp only [whGo] at k2
      refine ⟨env2, ρ2, F2, s2, g2, sl2, FPo.bind k2 sl2 fun cb s3 ρ3 F3 H3 bb e3 l3 g3 r3 k3 => ?_⟩
      subst r3
      cases cb with
      | false => exact k3 ρ3 F3 H3 σ2 LE.refl g3 (sl2.mono l3)
      | true =>
        refine ⟨fun σ' H' => ∃ env ρ F s, G (wd J X) ρ F s H' ∧ Sl (wd J X) ρ F env σ' ∧ FPo (wd J X) W ρ F H' D (whGo ft f1 m env s), fun σ' H' hN => ⟨m, Nat.lt_succ_self _, hN⟩, env2, ρ3, F3, s3, g3, sl2.mono l3, ?_⟩
        simp only [if_true] at k3
        cases eb : f1 env2 s3 with
        | fl f s4 =>
          rw [eb] at k3
          cases f with
          | nx e4 => exact fun ρ5 F5 H5 σ5 l5 g5 sl5 => ⟨e4, ρ5, F5, s4, g5, sl5, k3.le l5⟩
          | ct e4 => exact fun ρ5 F5 H5 σ5 l5 g5 sl5 => ⟨e4, ρ5, F5, s4, g5, sl5, k3.le l5⟩
          | rt d4 => exact k3
          | bk e4 => exact k3
        | exc c4 e4 s4 => rw [eb] at k3; exact k3
        | bad => rw [eb] at k3; exact k3
end
end Pd
namespace Pd
open PySem L2
/-! ### comprehensions -/
/-- one computation behind another that raises nothing -/
def bndN {α β : Type} (m : Sto → Out α) (k : α → Sto → Out β) (s : Sto) : Out β := match m s with
  | .ok a s' => k a s'
  | _ => .bad
theorem Po.bindN {α β γ δ : Type} {Γ : Wd} {R1 : List Addr → Hp → α → β → Prop} {R2 : List Addr → Hp → γ → δ → Prop} {ρ0 ρ : List Addr} {F0 H0 F H : Hp} {Q : δ → Hp → Prop} {Q1 : β → Hp → Prop} {E E' : Value → Hp → Prop} {m : Sto → Out α} {k : α → Sto → Out γ} {s : Sto}
    (h : Po Γ R2 ρ0 F0 H0 Q E (bndN m k s)) (hk : ∀ a s', m s = .ok a s' → Po Γ R2 ρ0 F0 H0 Q E (k a s') → ∀ ρ' F' H' v, LE ρ F H ρ' F' H' → G Γ ρ' F' s' H' → R1 ρ' F' a v → Q1 v H') : Po Γ R1 ρ F H Q1 E' (m s) := by
  unfold bndN at h
  cases e : m s with
  | ok a s' => rw [e] at h; exact hk a s' e h
  | exc c s' => rw [e] at h; exact False.elim h
  | bad => rw [e] at h; exact False.elim h
theorem LE.at_new {ρ ρ' : List Addr} {F H F' H' : Hp} (l : LE ρ F H ρ' F' H') {p : Addr} {o : HO} (hp : H p = none) : LE ρ F H ρ' F' (upd H' p o) where
  ld := l.ld
  fr := l.fr
  ff := l.ff
  keep := fun a u h n => by rw [upd_ne (ne_of_none h hp)]; exact l.keep a u h n
  there := fun a u h => by
    obtain ⟨w, q⟩ := l.there a u h
    exact ⟨w, by rw [upd_ne (ne_of_none h hp)]; exact q⟩
open Classical in
noncomputable def lcGo (tg : Tg) (ft : Tx) (fe : Ex) (ok : Sto → Prop) : List Dt → En → Sto → Out (List Dt)
  | [], _, s => if ok s then .ok [] s else .bad
  | d :: r, env, s => if ok s then match tg d env s with
      | some env1 => bndN (ft env1) (fun b s1 => if b = true then bndN (fe env1) (fun y => bndN (lcGo tg ft fe ok r env) fun ys s => .ok (y :: ys) s) s1 else lcGo tg ft fe ok r env s1) s
      | none => .bad
    else .bad
def wipeD (env : En) : List Nat → En
  | [] => env
  | v :: vs => (wipeD env vs).set v none
noncomputable def eLc (nw : List Dt → Sto → Out Dt) (vs : List Nat) (fi : Is) (tg : Tg) (ft : Tx) (fe : Ex) : Ex := fun env => bnd (fi env) fun p => bndN (lcGo tg ft fe p.2 p.1 (wipeD env vs)) nw
theorem Sl.wipe {Γ : Wd} {ρ : List Addr} {F : Hp} {env : En} {σ : St} (h : Sl Γ ρ F env σ) : ∀ vs : List Nat, Sl Γ ρ F (wipeD env vs) (L2.wipe σ vs)
  | [] => h
  | v :: vs => (Sl.wipe h vs).unset v
theorem wipe_in {τ : St} {j : Nat} : ∀ {vs : List Nat}, j ∈ vs → (L2.wipe τ vs)[j]? = if j < τ.length then some none else none
  | v :: vs, h => by
    show ((L2.wipe τ vs).set v none)[j]? = _
    by_cases e : v = j
    · subst e
      by_cases hl : v < τ.length
      · rw [if_pos hl, List.getElem?_set_self (by rw [wipe_length]; exact hl)]
      · rw [if_neg hl]
        exact List.getElem?_eq_none (by rw [List.length_set, wipe_length]; omega)
    · rw [List.getElem?_set_ne e]
      exact wipe_in (by
        rcases List.mem_cons.mp h with h | h
        · exact absurd h.symm e
        · exact h)
theorem wipe_same {σ σ2 : St} {is vs : List Nat} (hsub : ∀ i ∈ is, i ∈ vs) (hl : σ2.length = (L2.wipe σ vs).length) (h : ∀ j, j ∉ is → σ2[j]? = (L2.wipe σ vs)[j]?) : L2.wipe σ2 vs = L2.wipe σ vs := by
  apply List.ext_getElem?
  intro j
  by_cases hj : j ∈ vs
  · rw [wipe_in hj, wipe_in hj, hl, wipe_length]
  · rw [wipe_out hj]
    exact h j fun z => hj (hsub j z)
section
variable {J : Cn} {X : Cx} {W : WX} {a b c e e2 o tgt iter elt : Expr} {es ifs : List Expr} {fa fb fc fe fo : Ex} {fs : List Ex} {ft fu : Tx} {pos p : Pos} {st : Stmt} {rest : List Stmt} {f1 f2 : Sx} {fi : Is} {is : List Nat} {tg : Tg}
abbrev W0 : WX := fun _ _ _ _ => False
/-- what holds of the new list once it is whole -/
theorem lst_done {nw : List Dt → Sto → Out Dt} (n : IsNw nw) {Γ : Wd} {ρ0 ρ : List Addr} {F0 H0 F H : Hp} {s : Sto} {acc : List Dt} {xs : List V} {D : Addr} {Q : VK} {E : Value → Hp → Prop} (g : G Γ ρ F s H) (l : LE ρ0 F0 H0 ρ F H) (t : Dens Γ ρ F acc xs) (hz : acc.length ≤ sizeLine) (hD : H D = some (.lst xs)) (h0 : H0 D = none) (nr : D ∉ ρ) (nf : F D = none)
    (k : EPo Γ ρ0 F0 H0 Q E (nw acc s)) : Q (.ref D) H := by
  have eH : upd H D (.lst xs) = H := by
    funext x
    by_cases e : x = D
    · subst e; rw [upd_same, hD]
    · rw [upd_ne e]
  rcases n with n | n
  · subst n
    have ld : LD ρ F ρ (upd F D (.lst xs)) := LD.upd nf
    refine k ρ (upd F D (.lst xs)) H _ ⟨l.ld.trans ld, l.fr, fun a o h => ?_, l.keep, l.there⟩ ⟨fun a o h => ?_, g.len, g.nd, fun a h => ?_, fun i a mo h1 h2 => (g.at_ i a mo h1 h2).mono ld rfl⟩ ?_
    · by_cases e : a = D
      · subst e; exact .inr (.inl h0)
      · rw [upd_ne e] at h; exact l.ff a o h
    · by_cases e : a = D
      · subst e; rw [upd_same] at h; cases h; exact hD
      · rw [upd_ne e] at h; exact g.sub a o h
    · rw [upd_ne (fun z => nr (by rw [← z]; exact h))]; exact g.sep a h
    · simp only [Den]
      exact ⟨hz, D, xs, rfl, upd_same, Dens.monoD ld _ _ t⟩
  · subst n
    have ld : LD ρ F (ρ ++ [D]) F := LD.push
    refine k (ρ ++ [D]) F H _ ⟨l.ld.trans ld, fun a h => ?_, l.ff, l.keep, l.there⟩ ⟨g.sub, by simp [g.len], ?_, fun a h => ?_, fun i a m h1 h2 => ?_⟩ ?_
    · rcases List.mem_append.mp h with h | h
      · exact l.fr a h
      · rw [List.mem_singleton] at h; rw [h]; exact .inr h0
    · refine List.nodup_append.mpr ⟨g.nd, by simp, fun a ha b hb => ?_⟩
      rw [List.mem_singleton] at hb
      rw [hb]
      exact fun z => nr (by rw [← z]; exact ha)
    · rcases List.mem_append.mp h with h | h
      · exact g.sep a h
      · rw [List.mem_singleton] at h; rw [h]; exact .inl nf
    · by_cases hi : i < ρ.length
      · rw [List.getElem?_append_left hi] at h1
        rw [List.getElem?_append_left (by rw [← g.len]; exact hi)] at h2
        exact (g.at_ i a m h1 h2).mono ld rfl
      · rw [List.getElem?_append_right (by omega)] at h1
        rw [List.getElem?_append_right (by rw [← g.len]; omega)] at h2
        have e0 : i - ρ.length = 0 := by
          have := (List.getElem?_eq_some_iff.mp h1).1
          simp at this
          omega
        rw [e0] at h1
        rw [← g.len, e0] at h2
        cases h1
        cases h2
        exact ⟨hz, xs, hD, Dens.monoD ld _ _ t⟩
    · simp only [Den]
      exact ⟨D, rfl, by rw [← g.len, List.getElem?_append_right (Nat.le_refl _), Nat.sub_self]; rfl⟩
theorem lc_of {nw : List Dt → Sto → Out Dt} (n : IsNw nw) {vs : List Nat} (hsub : ∀ i ∈ is, i ∈ vs) {σ : St} {H : Hp} {Q : VK} (h : tE (wd J X) W (eLc nw vs fi tg ft fe) σ H Q) : tLc (tI (wd J X) W fi) (tG (wd J X) is tg) (tT (wd J X) W0 ft) (tE (wd J X) W0 fe) vs σ H Q := by
  obtain ⟨env, ρ, F, s, g, l, k⟩ := h
  refine ⟨env, ρ, F, s, g, l, Po.bind k fun q s1 ρ1 F1 H1 T e1 l1 g1 r1 k1 D hD => ?_⟩
  obtain ⟨its, ok⟩ := q
  have swl := (l.mono l1).wipe vs
  refine ⟨fun i m H => i ≤ its.length ∧ m = its.length - i ∧ ∃ ρ F s acc xs, LE ρ1 F1 H1 ρ F H ∧ G (wd J X) ρ F s H ∧ D ∉ ρ ∧ F D = none ∧ H D = some (.lst xs) ∧ Dens (wd J X) ρ F acc xs ∧ acc.length ≤ i ∧
      EPo (wd J X) ρ1 F1 H1 Q (fun c H' => W c none σ H') (bndN (lcGo tg ft fe ok (its.drop i) (wipeD env vs)) (fun ds => nw (acc ++ ds)) s), ?_, ?_⟩
  · refine ⟨its.length, Nat.zero_le _, rfl, ρ1, F1, s1, [], [], LE.skip hD, g1.skip _ hD, fun z => ?_, g1.fnone hD, upd_same, by simp only [Dens], Nat.le_refl _, k1⟩
    exact (g1.new_ne hD z) rfl
  · rintro i m H2 ⟨hi, em, ρ2, F2, s2, acc, xs, l2, g2, nr, nf, hDx, t, hac, k2⟩
    by_cases hlt : i < its.length
    · obtain ⟨d, hd⟩ : ∃ d, its[i]? = some d := ⟨its[i], List.getElem?_eq_getElem hlt⟩
      have hdr : its.drop i = d :: its.drop (i + 1) := by
        rw [List.drop_eq_getElem_cons hlt]
        congr 1
        exact (List.getElem?_eq_some_iff.mp hd).2
      rw [hdr] at k2
      have hok : ok s2 := by
        apply Classical.byContradiction
        intro hno
        simp only [bndN, lcGo, if_neg hno] at k2
        exact k2
      cases et : tg d (wipeD env vs) s2 with
      | none => simp only [bndN, lcGo, if_pos hok, et] at k2; exact False.elim k2
      | some env1 =>
        refine .inr ⟨r1.go i ρ2 F2 s2 H2 l2.ld g2 hok hlt, fun H' => i + 1 ≤ its.length ∧ its.length - (i + 1) = its.length - (i + 1) ∧ ∃ ρ F s acc xs, LE ρ1 F1 H1 ρ F H' ∧ G (wd J X) ρ F s H' ∧ D ∉ ρ ∧ F D = none ∧ H' D = some (.lst xs) ∧ Dens (wd J X) ρ F acc xs ∧ acc.length ≤ i + 1 ∧
          EPo (wd J X) ρ1 F1 H1 Q (fun c H' => W c none σ H') (bndN (lcGo tg ft fe ok (its.drop (i + 1)) (wipeD env vs)) (fun ds => nw (acc ++ ds)) s), fun H' hN => ⟨_, by rw [em]; omega, hN⟩, fun x H' hy => ?_⟩
        obtain ⟨F3, l3, g3, rd⟩ := r1.yld i ρ2 F2 s2 H2 d x H' l2.ld g2 hok hd hy
        have swl3 := (swl.mono l2).mono l3
        refine ⟨_, ρ2, F3, s2, d, env1, g3, swl3, rd, et, fun σ2 sl2 z1 z2 => ⟨wipe_same hsub z1 z2, env1, ρ2, F3, s2, g3, sl2, ?_⟩⟩
        -- the test
        have k3 : EPo (wd J X) ρ1 F1 H1 Q (fun c H' => W c none σ H') (bndN (ft env1) (fun b s1 => if b = true then bndN (fe env1) (fun y => bndN (lcGo tg ft fe ok (its.drop (i + 1)) (wipeD env vs)) fun ys => nw (acc ++ (y :: ys))) s1 else bndN (lcGo tg ft fe ok (its.drop (i + 1)) (wipeD env vs)) (fun ds => nw (acc ++ ds)) s1) s2) := by
          have e : bndN (lcGo tg ft fe ok (d :: its.drop (i + 1)) (wipeD env vs)) (fun ds => nw (acc ++ ds)) s2 = (bndN (ft env1) (fun b s1 => if b = true then bndN (fe env1) (fun y => bndN (lcGo tg ft fe ok (its.drop (i + 1)) (wipeD env vs)) fun ys => nw (acc ++ (y :: ys))) s1 else bndN (lcGo tg ft fe ok (its.drop (i + 1)) (wipeD env vs)) (fun ds => nw (acc ++ ds)) s1) s2) := by
            simp only [bndN, lcGo, if_pos hok, et]
            cases ft env1 s2 with
            | ok b s3 =>
              cases b with
              | true =>
                simp only [if_true]
                cases fe env1 s3 with
                | ok y s4 =>
                  simp only []
                  cases lcGo tg ft fe ok (its.drop (i + 1)) (wipeD env vs) s4 <;> rfl
                | _ => rfl
              | false => simp
            | _ => rfl
          rw [← e]; exact k2
        have nr3 : D ∉ ρ2 := nr
        have nf3 : F3 D = none := by
          cases e : F3 D with
          | none => rfl
          | some o =>
            rcases l3.ff D o e with ⟨u, z⟩ | z | ⟨_, _, z⟩
            · rw [nf] at z; cases z
            · rw [hDx] at z; cases z
            · rw [hDx] at z; cases z
        have hD3 : H' D = some (.lst xs) := l3.keep D _ hDx nr
        have stay : ∀ {ρ' : List Addr} {F' H3 : Hp}, LE ρ2 F3 H' ρ' F' H3 → D ∉ ρ' ∧ F' D = none ∧ H3 D = some (.lst xs) := fun {ρ' F' H3} l => by
          refine ⟨fun z => ?_, ?_, l.keep D _ hD3 nr3⟩
          · rcases l.fr D z with z | z
            · exact nr3 z
            · rw [hD3] at z; cases z
          · cases e : F' D with
            | none => rfl
            | some o =>
              rcases l.ff D o e with ⟨u, z⟩ | z | ⟨_, _, z⟩
              · rw [nf3] at z; cases z
              · rw [hD3] at z; cases z
              · rw [hD3] at z; cases z
        refine Po.bindN k3 fun b s3 eb k4 ρ4 F4 H4 b' l4 g4 r4 => ?_
        subst r4
        cases b with
        | false =>
          simp only [Bool.false_eq_true, if_false] at k4
          obtain ⟨w1, w2, w3⟩ := stay l4
          rw [if_neg Bool.false_ne_true]
          exact ⟨hlt, rfl, ρ4, F4, s3, acc, xs, (l2.trans l3).trans l4, g4, w1, w2, w3, Dens.mono (l3.trans l4) _ _ t, Nat.le_succ_of_le hac, k4⟩
        | true =>
          simp only [if_true] at k4
          rw [if_pos rfl]
          refine ⟨env1, ρ4, F4, s3, g4, sl2.mono l4, Po.bindN k4 fun y s5 ey k5 ρ5 F5 H5 v l5 g5 r5 => ?_⟩
          obtain ⟨w1, w2, w3⟩ := stay (l4.trans l5)
          refine ⟨xs, w3, ?_, hlt, rfl, ρ5, F5, s5, acc ++ [y], xs ++ [v], ((l2.trans l3).trans (l4.trans l5)).at_new hD, g5.other _ w1 w2, w1, w2, upd_same, Dens.append (Dens.mono (l3.trans (l4.trans l5)) _ _ t) (Dens.one r5), by rw [List.length_append]; simpa using hac, ?_⟩
          · rw [← t.length]
            exact Nat.lt_of_le_of_lt hac (Nat.lt_of_lt_of_le hlt r1.len)
          · have e : (fun ds => nw (acc ++ [y] ++ ds)) = fun ys => nw (acc ++ (y :: ys)) := by funext ys; rw [List.append_assoc]; rfl
            rw [e]
            exact k5
    · have hie : i = its.length := by omega
      have hdr : its.drop i = [] := List.drop_eq_nil_of_le (by omega)
      rw [hdr] at k2
      have hok : ok s2 := by
        apply Classical.byContradiction
        intro hno
        simp only [bndN, lcGo, if_neg hno] at k2
        exact k2
      simp only [bndN, lcGo, if_pos hok, List.append_nil] at k2
      exact .inl ⟨r1.stop i ρ2 F2 s2 H2 l2.ld g2 hok hie, lst_done n g2 l2 t (Nat.le_trans hac (by rw [hie]; exact r1.len)) hDx hD nr nf k2⟩
theorem es_lc {nw : List Dt → Sto → Out Dt} (n : IsNw nw) {scope : Scope} {own : List (Str × Nat)} (hc : X.calm = true) (hN : X.N.Nodup) (hi : IS J X W tgt iter fi) (ok : BlkOk X.N X.env.scope scope own) (hsub : ∀ i ∈ is, i ∈ own.map (·.2))
    (hg : ∀ (s : Shared) (H : Hp) (C : Addr) (cl : List (Str × Addr)) (fp : List Addr), GS J (X.blk s H scope (compEnvC scope cl C X.env) fp) tgt is tg) (ht : ∀ (s : Shared) (H : Hp) (C : Addr) (cl : List (Str × Addr)) (fp : List Addr), PTs (X.blk s H scope (compEnvC scope cl C X.env) fp) ifs (tT (wd J X) W0 ft))
    (he : ∀ (s : Shared) (H : Hp) (C : Addr) (cl : List (Str × Addr)) (fp : List Addr), ES J (X.blk s H scope (compEnvC scope cl C X.env) fp) W0 elt fe) (hs : ∀ x, foldedSetIterable iter X.env x = pure x := by intro _; rfl) :
    ES J X W (.ListComp elt [⟨tgt, iter, ifs, 0⟩] scope pos) (eLc nw (own.map (·.2)) fi tg ft fe) :=
  PE.imp (pe_lc hc hN hi ok hg ht he hs) fun σ H Q h => lc_of n hsub h
theorem ss_setLc {nw : List Dt → Sto → Out Dt} (n : IsNw nw) {i : Nat} {y : Str} {py spos : Pos} {scope : Scope} {own : List (Str × Nat)} (hc : X.calm = true) (hN : X.N.Nodup) (hy : X.N[i]? = some y) (hyl : X.env.scope.names.lookup y = some .local)
    (hsw : swapsWith (.ListComp elt [⟨tgt, iter, ifs, 0⟩] scope pos) (some (.Name y py)) spos.line X.env = pure true) (hi : IS J X W tgt iter fi) (ok : BlkOk X.N X.env.scope scope own) (hsub : ∀ i ∈ is, i ∈ own.map (·.2))
    (hg : ∀ (s : Shared) (H : Hp) (C : Addr) (cl : List (Str × Addr)) (fp : List Addr), GS J (X.blk s H scope (compEnvC scope cl C X.env) fp) tgt is tg) (ht : ∀ (s : Shared) (H : Hp) (C : Addr) (cl : List (Str × Addr)) (fp : List Addr), PTs (X.blk s H scope (compEnvC scope cl C X.env) fp) ifs (tT (wd J X) W0 ft))
    (he : ∀ (s : Shared) (H : Hp) (C : Addr) (cl : List (Str × Addr)) (fp : List Addr), ES J (X.blk s H scope (compEnvC scope cl C X.env) fp) W0 elt fe) (hs : ∀ x, foldedSetIterable iter X.env x = pure x := by intro _; rfl) :
    SS J X W (.Assign [.Name y py] (.ListComp elt [⟨tgt, iter, ifs, 0⟩] scope pos) spos) (sAsg (eLc nw (own.map (·.2)) fi tg ft fe) (gN i)) :=
  PS.imp (ps_setLc hc hN hy hyl hsw hi ok hg ht he hs) fun D σ H ⟨env, ρ, F, s, g, l, k⟩ => lc_of (W := W) n hsub ⟨env, ρ, F, s, g, l, FPo.bind k l fun d s1 ρ1 F1 H1 v e1 l1 g1 r1 k1 => k1 ρ1 F1 H1 _ LE.refl g1 ((l.mono l1).set r1 i)⟩
def tYes : Tx := fun _ s => .ok true s
theorem PTs.imp {X : Cx} {e : List Expr} {t t' : TT} (h : PTs X e t) (k : ∀ σ H Q, t' σ H Q → t σ H Q) : PTs X e t' := ⟨fun pins s σ H Q I q => h.run pins s σ H Q I (k σ H Q q)⟩
theorem tts_nil : PTs X [] (tT (wd J X) W Pd.tYes) := PTs.imp pts_nil fun σ H Q ⟨env, ρ, F, s, g, l, k⟩ => k ρ F H true LE.refl g rfl
end
end Pd
namespace Pd
open PySem L2
/-- a list that is tracked -/
def trkL (s : Sto) : Dt → Option (List Dt)
  | .lst l => some l
  | .obj i => match s[i]? with
    | some (.lst l) => some l
    | _ => none
  | _ => none
/-- a list of the store -/
def lstAt (s : Sto) : Dt → Option (Nat × List Dt)
  | .obj i => match s[i]? with
    | some (.lst l) => some (i, l)
    | _ => none
  | _ => none
section
variable {Γ : Wd} {ρ : List Addr} {F H : Hp} {s : Sto}
theorem G.trk (g : G Γ ρ F s H) {d : Dt} {v : V} {l : List Dt} (r : Den Γ ρ F d v) (h : trkL s d = some l) : ∃ a xs, v = .ref a ∧ H a = some (.lst xs) ∧ Dens Γ ρ F l xs ∧ l.length ≤ sizeLine := by
  cases d with
  | lst l' =>
    simp only [Den] at r
    simp only [trkL, Option.some.injEq] at h
    subst h
    obtain ⟨z, a, xs, e, q, t⟩ := r
    exact ⟨a, xs, e, g.sub _ _ q, t, z⟩
  | obj i =>
    simp only [Den] at r
    obtain ⟨a, e, q⟩ := r
    simp only [trkL] at h
    split at h
    · rename_i l' hs
      cases h
      obtain ⟨z, xs, ha, t⟩ := g.at_ i a _ q hs
      exact ⟨a, xs, e, ha, t, z⟩
    · cases h
  | _ => simp [trkL] at h
theorem G.lat (g : G Γ ρ F s H) {d : Dt} {v : V} {i : Nat} {l : List Dt} (r : Den Γ ρ F d v) (h : lstAt s d = some (i, l)) : ∃ a xs, v = .ref a ∧ ρ[i]? = some a ∧ H a = some (.lst xs) ∧ Dens Γ ρ F l xs ∧ l.length ≤ sizeLine := by
  cases d with
  | obj j =>
    simp only [Den] at r
    obtain ⟨a, e, q⟩ := r
    simp only [lstAt] at h
    split at h
    · rename_i l' hs
      cases h
      obtain ⟨z, xs, ha, t⟩ := g.at_ _ a _ q hs
      exact ⟨a, xs, e, q, ha, t, z⟩
    · cases h
  | _ => simp [lstAt] at h
/-- a list of the store is written -/
theorem G.setL (g : G Γ ρ F s H) {i : Nat} {a : Addr} {l : List Dt} {xs : List V} {ys : List V} (hi : ρ[i]? = some a) (q : H a = some (.lst ys)) (t : Dens Γ ρ F l xs) (z : l.length ≤ sizeLine) : G Γ ρ F (s.set i (.lst l)) (upd H a (.lst xs)) := g.put hi (fun od u e => by rw [q] at e; cases e) ⟨z, xs, upd_same, t⟩
end
/-! ### a + b -/
def dAdd (nw : List Dt → Sto → Out Dt) (x y : Dt) (s : Sto) : Out Dt := match x with
  | .int i => match y with
    | .int j => .ok (.int (i + j)) s
    | _ => .bad
  | .str i => match y with
    | .str j => if i.length + j.length ≤ 1000000 then .ok (.str (i ++ j)) s else .bad
    | _ => .bad
  | .tup l => match y with
    | .tup m => if l.length + m.length ≤ sizeLine then .ok (.tup (l ++ m)) s else .bad
    | _ => .bad
  | x => match trkL s x with
    | some l => match trkL s y with
      | some m => if l.length + m.length ≤ sizeLine then nw (l ++ m) s else .bad
      | none => .bad
    | none => .bad
theorem sok_app {i j : Str} (hi : sok i = true) (hj : sok j = true) (h : i.length + j.length ≤ 1000000) : sok (i ++ j) = true := by
  have e : (i ++ j).cps.toList = i.cps.toList ++ j.cps.toList := TL.tl_append i j
  refine sok_of (fun c hc => ?_) ?_
  · rw [e] at hc
    rcases List.mem_append.mp hc with hc | hc
    · exact sok_mem hi hc
    · exact sok_mem hj hc
  · have : (i ++ j).length = i.length + j.length := by
      show (i ++ j).cps.size = i.cps.size + j.cps.size
      rw [← Array.length_toList, e, List.length_append, Array.length_toList, Array.length_toList]
    omega
def rAddAll (K : PySem.W.Frag) : R2 := fun x y H Q => rI0 (fun i j => .int (i + j)) x y H Q ∨ ((∃ i j, x = .str i ∧ y = .str j ∧ i.length + j.length ≤ sizeLine ∧ Q (.str (i ++ j)) H) ∨ (rCatA K x y H Q ∨ rCat x y H Q))
theorem dAdd_ok {Γ : Wd} {nw : List Dt → Sto → Out Dt} (n : IsNw nw) : OpS Γ (rAddAll Γ.K) (dAdd nw) := by
  intro ρ F s H x y dx dy Q E g rx ry k
  have gen : ∀ l, trkL s dx = some l → (∀ m, trkL s dy = some m → l.length + m.length ≤ sizeLine → EPo Γ ρ F H Q E (nw (l ++ m) s) → rCat x y H Q) := fun l hl m hm hz k => by
    obtain ⟨a, xs, e1, q1, t1, _⟩ := g.trk rx hl
    obtain ⟨b, ys, e2, q2, t2, _⟩ := g.trk ry hm
    exact ⟨a, b, xs, ys, e1, e2, q1, q2, by rw [← t1.length, ← t2.length]; exact hz, fun p hp => new_lst n g (Dens.append t1 t2) (by rw [List.length_append]; exact hz) hp k⟩
  cases dx with
  | int i =>
    cases dy with
    | int j =>
      simp only [Den] at rx ry
      exact .inl ⟨i, j, rx, ry, k ρ F H _ LE.refl g (by simp only [Den])⟩
    | _ => exact False.elim k
  | str i =>
    cases dy with
    | str j =>
      simp only [Den] at rx ry
      simp only [dAdd] at k
      split at k
      · rename_i h
        refine .inr (.inl ⟨i, j, rx.1, ry.1, by rw [sizeLine_eq]; omega, k ρ F H _ LE.refl g ?_⟩)
        simp only [Den]
        exact ⟨trivial, sok_app rx.2 ry.2 h⟩
      · exact False.elim k
    | _ => exact False.elim k
  | tup l =>
    cases dy with
    | tup m =>
      simp only [dAdd] at k
      split at k
      · rename_i h
        obtain ⟨a, xs, e1, q1, t1, z1⟩ := g.sqT rx (l := l) rfl
        obtain ⟨b, ys, e2, q2, t2, z2⟩ := g.sqT ry (l := m) rfl
        refine .inr (.inr (.inl ⟨a, b, xs, ys, e1, e2, q1, q2, by rw [← t1.length, ← t2.length]; exact h, fun hx => ?_, fun hx hy => ?_, fun hx hy p hp => ?_⟩))
        · have el : l = [] := by
            have := t1.length
            rw [hx] at this
            exact List.length_eq_zero_iff.mp (by simpa using this)
          subst el
          rw [List.nil_append] at k
          have := k ρ F H y LE.refl g ry
          rw [e2] at this
          exact this
        · have em : m = [] := by
            have := t2.length
            rw [hy] at this
            exact List.length_eq_zero_iff.mp (by simpa using this)
          subst em
          rw [List.append_nil] at k
          have := k ρ F H x LE.refl g rx
          rw [e1] at this
          exact this
        · exact new_tup g (Dens.append t1 t2) (by rw [List.length_append]; exact h) hp k
      · exact False.elim k
    | _ => exact False.elim k
  | lst l =>
    simp only [dAdd, trkL] at k
    cases e : trkL s dy with
    | none => simp only [trkL] at e; rw [e] at k; exact False.elim k
    | some m =>
      simp only [trkL] at e
      rw [e] at k
      simp only [] at k
      split at k
      · rename_i h
        exact .inr (.inr (.inr (gen l rfl m e h k)))
      · exact False.elim k
  | obj i =>
    simp only [dAdd] at k
    cases e1 : trkL s (.obj i) with
    | none => rw [e1] at k; exact False.elim k
    | some l =>
      rw [e1] at k
      simp only [] at k
      cases e : trkL s dy with
      | none => rw [e] at k; exact False.elim k
      | some m =>
        rw [e] at k
        simp only [] at k
        split at k
        · rename_i h
          exact .inr (.inr (.inr (gen l e1 m e h k)))
        · exact False.elim k
  | _ => exact False.elim k
section
variable {J : Cn} {X : Cx} {W : WX} {a b c e e2 o tgt iter elt : Expr} {es ifs : List Expr} {fa fb fc fe fo : Ex} {fs : List Ex} {ft fu : Tx} {pos p apos cpos : Pos} {st : Stmt} {rest : List Stmt} {f1 f2 : Sx}
theorem es_add {nw : List Dt → Sto → Out Dt} (n : IsNw nw) (ha : ES J X W a fa) (hb : ES J X W b fb) : ES J X W (.BinOp a .Add b pos) (eOp (dAdd nw) fa fb) :=
  es_op (OpR.or op_add (OpR.or op_add_str (OpR.or op_catA op_cat))) (dAdd_ok n) ha hb
/-! ### methods of built-ins -/
def isLst (s : Sto) (d : Dt) : Bool := (asL s d).isSome
def isStr (_ : Sto) (d : Dt) : Bool := match d with
  | .str _ => true
  | _ => false
def TyS (Γ : Wd) (T : String) (ty : Sto → Dt → Bool) : Prop := ∀ ρ F s H x d, G Γ ρ F s H → Den Γ ρ F d x → ty s d = true → tyV Γ.K T x H
theorem ty_lst {Γ : Wd} : TyS Γ "list" isLst := by
  intro ρ F s H x d g r h
  unfold isLst at h
  obtain ⟨l, e⟩ := Option.isSome_iff_exists.mp h
  obtain ⟨a, xs, e1, q, _⟩ := g.sqL r e
  subst e1
  exact .inl ⟨rfl, xs, q⟩
theorem ty_str {Γ : Wd} : TyS Γ "str" isStr := by
  intro ρ F s H x d g r h
  cases d with
  | str z => simp only [Den] at r; obtain ⟨r, _⟩ := r; subst r; exact rfl
  | _ => exact Bool.noConfusion h
def M1S (Γ : Wd) (r : V → List V → Hp → VK → Prop) (op : Dt → Dt → Sto → Out Dt) : Prop := ∀ ρ F s H x y dx dy Q E, G Γ ρ F s H → Den Γ ρ F dx x → Den Γ ρ F dy y → EPo Γ ρ F H Q E (op dx dy s) → r x [y] H Q
/-- a method of a built-in, with one argument -/
def Bm1 (J : Cn) (X : Cx) (T : String) (name : Str) (ty : Sto → Dt → Bool) (op : Dt → Dt → Sto → Out Dt) : Prop := ∃ id r, PlainAttrs T ∧ Slot T name id ∧ typeOf (.builtin id) = pure (.type "method_descriptor") ∧ MtR X id r ∧ TyS (wd J X) T ty ∧ M1S (wd J X) r op
def eBm1 (ty : Sto → Dt → Bool) (op : Dt → Dt → Sto → Out Dt) (fo fe : Ex) : Ex := fun env => bnd (fo env) fun x s => if ty s x = true then bnd (fe env) (fun y => op x y) s else .bad
theorem es_bm1 {T : String} {name : Str} {ty : Sto → Dt → Bool} {op : Dt → Dt → Sto → Out Dt} (B : Bm1 J X T name ty op) (ho : ES J X W o fo) (he : ES J X W e fe)
    (hs : starEach (e :: []) X.env = (false, eval e X.env) :: starEach [] X.env := by rfl) (hbase : attributeBase o name X.env (eval o X.env) = eval o X.env := by rfl)
    (hfew : ((backTo cpos (starEach [e] X.env)).all (fun x => !x.1) && (backToKw cpos (keywordEach [] X.env)).all (fun x => x.1.isSome)
      && decide (([e] : List Expr).length + ([] : List Keyword).length + (if ([] : List Keyword).isEmpty then 0 else 1) < 30)) = true := by rfl)
    (hline : (apos.endLine == cpos.line) = true := by rfl) : ES J X W (.Call (.Attribute o name apos) [e] [] cpos) (eBm1 ty op fo fe) := by
  obtain ⟨id, r, pa, slot, hty, hm, tyS, opS⟩ := B
  exact PE.imp (pe_bm pa slot hty hm ho (pa_cons he pa_nil hs) hbase hfew hline hs rfl) fun σ H Q ⟨env, ρ, F, s, g, l, k⟩ => ⟨env, ρ, F, s, g, l, Po.bind k fun x s1 ρ1 F1 H1 v e1 l1 g1 r1 k1 => by
    split at k1
    · rename_i ht
      exact ⟨tyS ρ1 F1 s1 H1 v x g1 r1 ht, env, ρ1, F1, s1, g1, l.mono l1, Po.bind k1 fun y s2 ρ2 F2 H2 u e2 l2 g2 r2 k2 => opS ρ2 F2 s2 H2 v u x y Q _ g2 (Den.mono l2 _ _ r1) r2 k2⟩
    · exact False.elim k1⟩
def dApp (x y : Dt) (s : Sto) : Out Dt := match lstAt s x with
  | some (i, l) => if l.length < sizeLine then .ok .non (s.set i (.lst (l ++ [y]))) else .bad
  | none => .bad
theorem m_append : Bm1 J X "list" "append" isLst dApp := ⟨_, _, PySem.F.plainAttrs_list, PySem.F.slot_list_append, PySem.F.type_list_append, mt_append, ty_lst, fun ρ F s H x y dx dy Q E g rx ry k => by
  unfold dApp at k
  split at k
  · rename_i i l hl
    split at k
    · rename_i hz
      obtain ⟨a, xs, e1, hi, q, t, _⟩ := g.lat rx hl
      refine ⟨a, xs, y, e1, rfl, q, by rw [← t.length]; exact hz, k ρ F _ _ (LE.put (List.mem_of_getElem? hi)) (g.setL hi q (Dens.append t (Dens.one ry)) (by rw [List.length_append]; exact hz)) (by simp only [Den])⟩
    · exact False.elim k
  · exact False.elim k⟩
def dExt (x y : Dt) (s : Sto) : Out Dt := match lstAt s x with
  | some (i, l) => match trkL s y with
    | some m => if l.length + m.length ≤ sizeLine then .ok .non (s.set i (.lst (l ++ m))) else .bad
    | none => .bad
  | none => .bad
theorem m_extend : Bm1 J X "list" "extend" isLst dExt := ⟨_, _, PySem.F.plainAttrs_list, PySem.F.slot_list_extend, PySem.F.type_list_extend, mt_extend, ty_lst, fun ρ F s H x y dx dy Q E g rx ry k => by
  unfold dExt at k
  split at k
  · rename_i i l hl
    split at k
    · rename_i m hm
      split at k
      · rename_i hz
        obtain ⟨a, xs, e1, hi, q, t, _⟩ := g.lat rx hl
        obtain ⟨b, ys, e2, q2, t2, _⟩ := g.trk ry hm
        refine ⟨a, b, xs, ys, e1, by rw [e2], q, q2, by rw [← t.length, ← t2.length]; exact hz, k ρ F _ _ (LE.put (List.mem_of_getElem? hi)) (g.setL hi q (Dens.append t t2) (by rw [List.length_append]; exact hz)) (by simp only [Den])⟩
      · exact False.elim k
    · exact False.elim k
  · exact False.elim k⟩
/-! ### isinstance(x, T), T a built-in class -/
def tyN (s : Sto) : Dt → Option String
  | .non => some "NoneType"
  | .bl _ => some "bool"
  | .int _ => some "int"
  | .str _ => some "str"
  | .tup _ => some "tuple"
  | .lst _ => some "list"
  | .lsk _ => some "list"
  | .obj i => match s[i]? with
    | some (.lst _) => some "list"
    | some (.dic _) => some "dict"
    | some (.dit _) => some "dict"
    | some (.dicL _) => some "dict"
    | _ => none
  | .exc _ => none
theorem G.ty {Γ : Wd} {ρ : List Addr} {F H : Hp} {s : Sto} (g : G Γ ρ F s H) {d : Dt} {v : V} {T : String} (r : Den Γ ρ F d v) (h : tyN s d = some T) : TyX Γ.K H v (.type T) := by
  cases d with
  | non => simp only [Den] at r; simp only [tyN, Option.some.injEq] at h; subst r; subst h; exact .base .non
  | bl b => simp only [Den] at r; simp only [tyN, Option.some.injEq] at h; subst r; subst h; exact .base (.bl b)
  | int i => simp only [Den] at r; simp only [tyN, Option.some.injEq] at h; subst r; subst h; exact .base (.int i)
  | str x => simp only [Den] at r; simp only [tyN, Option.some.injEq] at h; obtain ⟨r, _⟩ := r; subst r; subst h; exact .base (.str x)
  | tup l =>
    simp only [Den] at r; simp only [tyN, Option.some.injEq] at h
    obtain ⟨z, a, xs, e, q, t⟩ := r
    subst e; subst h
    exact .base (.tup (g.sub _ _ q))
  | lst l =>
    simp only [Den] at r; simp only [tyN, Option.some.injEq] at h
    obtain ⟨z, a, xs, e, q, t⟩ := r
    subst e; subst h
    exact .base (.lst (g.sub _ _ q))
  | lsk l =>
    simp only [Den] at r; simp only [tyN, Option.some.injEq] at h
    obtain ⟨z, a, xs, e, q, t⟩ := r
    subst e; subst h
    rcases sqL_sub g.sub q with (q | ⟨o, q⟩) | ⟨o, its, n, hk, hc, _⟩
    · exact .base (.lst q)
    · exact .base (.frz q)
    · exact .kList hk hc
  | obj i =>
    simp only [Den] at r
    obtain ⟨a, e, q⟩ := r
    subst e
    simp only [tyN] at h
    split at h
    · rename_i l hs
      cases h
      obtain ⟨z, xs, hx, t⟩ := g.at_ i a _ q hs
      exact .base (.lst hx)
    · rename_i l hs
      cases h
      obtain ⟨z, xs, hx, t⟩ := g.at_ i a _ q hs
      exact .base (.dK hx)
    · rename_i l hs
      cases h
      obtain ⟨z, xs, hx, t⟩ := g.at_ i a _ q hs
      exact .base (.dT hx)
    · rename_i l hs
      cases h
      obtain ⟨z, od, xs, hx, t⟩ := g.at_ i a _ q hs
      exact .fDict hx.1
    · cases h
  | exc c => simp [tyN] at h
/-! ### raise X('..') -/
def sRaise (c : Nat) : Sx := fun env s => .exc c env s
theorem ss_raise {z : Bool} {c : Nat} {x m : Str} {C : Addr} {bmB : List Value} {B newId initId : String} {j : Nat} {p p2 pos pos' : Pos} (hJ : (J c).1 = x) (hc : X.calm = true) (tk : Tks z X W) (Fx : ExcBaseFacts B newId initId bmB) (q : PySem.W.excIn X.K C bmB newId = true) (gC : X.mg x = some (.ref C)) (kC : PySem.W.keepIn X.K (.ref C) = true) (r : Raises X (.ref C)) (hg : Gl X x)
    (hdb : (x == ("__debug__" : Str)) = false := by decide) : SS J X W (.Raise (some (.Call (.Name x p) [.Constant (.str m) j p2] [] pos)) none pos') (sRaise c) := by
  have k : ∀ D σ H, tS (wd J X) W (sRaise c) D σ H → W (.ref C) none σ H := fun D σ H ⟨env, ρ, F, s, g, l, k⟩ => k ρ F H σ C LE.refl g l (by show X.mg (J c).1 = _; rw [hJ]; exact gC)
  match z, tk with
  | true, tk => exact PS.imp (L2N.ps_raise hc tk (L2N.pmk_own Fx q gC kC r hg hdb)) k
  | false, tk => exact PS.imp (L2.ps_raise hc tk (L2.pmk_own Fx q gC kC r hg hdb)) k
end
end Pd
namespace Pd
open PySem L2
/-! ### a caught error that is kept -/
theorem exH_ok {P : Program} {w : World} {H : Hp} {h : Heap} {C a : Addr} {oe : Obj} {vs : Array Value} (e : h.get? a = some oe) (z : Zc (.ref C) none oe) (d : oe.data = .fields vs) : ObjOk P w H h a (ExH C a) :=
  ⟨⟨oe, vs, e, z, d⟩, ⟨oe, e⟩, fun _ _ ⟨o, v, q, r⟩ k => ⟨o, v, k o q, r⟩⟩
/-- an object of the body's own time comes to be tracked -/
theorem Inv.track {X : Cx} {pins : List (Addr × Obj)} {σ : St} {H : Hp} {s : Shared} {C a : Addr} {oe : Obj} {vs : Array Value} (I : Inv X pins σ H s) (he : s.heap.get? a = some oe) (hz : Zc (.ref C) none oe) (hd : oe.data = .fields vs) (na : H a = none)
    (n0 : X.s_0.heap.get? a = none) (nL : a ≠ X.env.locals) (np : ∀ p ∈ X.pn ++ pins, p.1 ≠ a) : Inv X pins σ (upd H a (ExH C a)) s where
  ok := I.ok
  os := I.os
  bare := I.bare
  base :=
    { keep := I.base.keep
      slot := I.base.slot
      free := fun b o q n x => by rw [upd_ne (fun z => by rw [z, n0] at q; cases q)]; exact I.base.free b o q n x
      there := I.base.there
      tups := fun b xs q => by have z := I.base.tups b xs q; rw [upd_ne (ne_of_none z na)]; exact z
      frzs := fun b o u q => by have z := I.base.frzs b o u q; rw [upd_ne (ne_of_none z na)]; exact z
      tbls := fun b ps q => by obtain ⟨m, z⟩ := I.base.tbls b ps q; exact ⟨m, by rw [upd_ne (ne_of_none z na)]; exact z⟩ }
  loc := I.loc
  cell := I.cell
  free := by rw [upd_ne (Ne.symm nL)]; exact I.free
  freeC := fun x c h => by
    obtain ⟨v, o, q1, q2⟩ := I.cell x c h
    rw [upd_ne (fun z => by
      rw [z, he] at q1
      cases q1
      rw [hd] at q2
      cases q2)]
    exact I.freeC x c h
  pin := fun p h => by
    obtain ⟨h1, h2, h3⟩ := I.pin p h
    exact ⟨h1, by rw [upd_ne (np p h)]; exact h2, h3⟩
  hok := fun b o q => by
    by_cases e : b = a
    · subst e
      rw [upd_same] at q
      cases q
      exact exH_ok he hz hd
    · rw [upd_ne e] at q
      exact (I.hok b o q).stay (fun _ _ _ z => z) (fun c z => by rw [upd_ne (ne_of_none z na)]; exact z) fun c xs z => by rw [upd_ne (ne_of_none z na)]; exact z
  len := I.len
/-- what is wanted of an error that a clause takes and whose object stays behind -/
def wKept (K : PySem.W.Frag) (c : Value) (i : Nat) (ts : Addr → Value → Option Addr → TS) (D : Ends) : WX := fun cls d σ H =>
  PySem.W.exmOne K cls c = some true ∧ ∃ C, cls = .ref C ∧ d = none ∧ ∀ a, H a = none → ts a cls d { nx := fun σ' H' => H' a = none → D.nx (σ'.set i none) (upd H' a (ExH C a)), rt := fun _ _ => False, bk := fun _ _ => False, ct := fun _ _ => False } (σ.set i (some (.ref a))) H
section
variable {X : Cx} {x n : Str} {c : Value} {i : Nat} {body suite : List Stmt} {b0 : Stmt} {np pos pos' : Pos} {tb : WX → TS} {ts : Addr → Value → Option Addr → TS}
/-- from the catch on -/
theorem catch_kept (hs : X.stack = X.env :: X.outer) (hf : X.env.frame = some X.env.locals) (hN : X.N.Nodup) (hi : X.N[i]? = some n) (hln : X.env.kindOf n = some .local) (hc : Names X x c) (hex : X.ex = [])
    (hsu : ∀ (a : Addr) (oe : Obj) (cls : Value) (d : Option Addr) (pn : List (Addr × Obj)), Zc cls d oe → (∃ vs, oe.data = .fields vs) → PSs (X.suite a ((a, oe) :: pn)) (b0 :: suite) (ts a cls d))
    {pins : List (Addr × Obj)} {D : Ends} {u : Value} {s' : Shared} {xe : Value → Shared → Prop} (ok : X.Ok) (q : L2.XE (X.tr (X.pn ++ pins) xe) (wKept X.K c i ts D) u s') :
    wpAny (model X.prog X.w) X.A (noteFrame u X.env) (fun _ s2 => wpAny (model X.prog X.w) X.A (setFlight u none) (fun _ s3 =>
      wpAny (model X.prog X.w) X.A (handleBy u X.env [.ExceptHandler (some (.Name x np)) (some n) (b0 :: suite) pos']) (SP X pins D) X.xe s3) X.xe s2) X.xe s' := by
  obtain ⟨a, B, sI, pins', σ1, H1, cls, d, eu, I', nb, up, sky, na, os, ag, hm, C, ec, ed, hts⟩ := q
  subst eu; subst ec; subst ed
  have I1 : Inv X pins σ1 H1 sI := I'.ofTry ok
  have hfr : X.A.frames = some (X.env :: X.outer) := by rw [ok.frames, hs]
  rw [show (X.tr (X.pn ++ pins) xe).stack = X.env :: X.outer from hs] at sky
  refine Sky.land Zc.steady hfr hf sky fun h3 fl3 up3 => ?_
  have I3 : Inv X pins σ1 H1 { s' with heap := h3 } := I1.landed nb fl3.1 (up.trans up3) os ag
  obtain ⟨oe3, vs3, he3, hz3, hd3⟩ := fl3.there
  have nfr : a ∉ frs (X.env :: X.outer) := fun z => by
    obtain ⟨_, o, e1, e2⟩ := (fl3.2.2.1).mem z
    rw [he3] at e1
    cases e1
    exact e2 _ hd3
  have nL : a ≠ X.env.locals := fun z => nfr (List.mem_filterMap.mpr ⟨X.env, List.mem_cons_self, by rw [hf, z]⟩)
  have nF : a ∉ X.fs := fun z => by
    obtain ⟨e, h1, h2⟩ := List.mem_filterMap.mp z
    exact nfr (List.mem_filterMap.mpr ⟨e, List.mem_cons_of_mem _ h1, h2⟩)
  have nB : B.get? a = none := fl3.2.1
  have nst : a ∉ frs X.stack := by rw [hs]; exact nfr
  -- it was made behind the entry, and is none of the pins
  have n0 : X.s_0.heap.get? a = none := by
    cases e : X.s_0.heap.get? a with
    | none => rfl
    | some o =>
      obtain ⟨o', e'⟩ := I1.base.there a o e (by rw [hex]; exact List.not_mem_nil)
      rw [nb a o' e' nst] at nB
      cases nB
  have npin : ∀ p ∈ X.pn ++ pins, p.1 ≠ a := fun p hp z => by
    obtain ⟨e1, _, e2, e3, _⟩ := I1.pin p hp
    rw [z] at e1
    have := nb a p.2 e1 nst
    rw [nB] at this
    cases this
  have S3 := I3.suite he3 hd3 na nL nF
  refine wpAny_handleBy_cons (codeAny_handlers_test ?_) (by intro q; cases q)
  have looks : PySem.W.Looks (model X.prog X.w) h3 (typeOf (.ref a)) (.ref C) := fun A Q E s k q => wpAny_typeOf_ref (k _ _ he3) (by rw [hz3.1]; exact q)
  have hit := PySem.W.exm_one (M := model X.prog X.w) I3.kIn looks hm
  have cond : ∀ {Q : Value → Shared → Prop} {E : Value → Shared → Prop}, Q c { s' with heap := h3 } → wpAny (model X.prog X.w) (X.A.mark (some (.ref a))) (eval (.Name x np) X.env) Q E { s' with heap := h3 } := fun {Q E} q => by
    obtain ⟨g1, g2, g3⟩ := hc
    rcases g3 with g3 | ⟨g3, g4, g5⟩
    · exact ld_glob (X := X.suite a ((a, oe3) :: (X.pn ++ pins))) S3 g1 g3 q g2
    · exact ld_blt (X := X.suite a ((a, oe3) :: (X.pn ++ pins))) S3 g1 g3 g4 q g5 g2
  refine cond (hit.here (codeAny_handlers_suite_as (HandSPX.lands_againZ fl3 fun h4 fl4 up4 => ?_)))
  have I4 : Inv X pins σ1 H1 { s' with heap := h4 } := I1.landed nb fl4.1 ((up.trans up3).trans up4) os ag
  obtain ⟨oe4, vs4, he4, hz4, hd4⟩ := fl4.there
  have S4 := I4.suite he4 hd4 na nL nF
  refine store_ok (X := X.suite a ((a, oe4) :: (X.pn ++ pins))) (v := .ref a) S4 hN hi (.inl hln) rfl (fun s5 S5 => ?_) (.inr hln)
  refine wpAny_mono ((hsu a oe4 (.ref C) none (X.pn ++ pins) hz4 ⟨_, hd4⟩).run [] s5 _ H1 _ S5 (hts a na)) (fun f s6 r => ?_) (fun _ _ z => False.elim z)
  cases f with
  | next =>
    obtain ⟨σ6, H6, S6, q6⟩ := r
    obtain ⟨p1, p2, _⟩ := S6.pin (a, oe4) (List.mem_append_left _ List.mem_cons_self)
    have I6 : Inv X pins σ6 H6 s6 := S6.unsuite ok
    exact gone_ok (Inv.track I6 p1 hz4 hd4 p2 n0 nL npin) hN hi hln fun s7 I7 => ⟨_, _, I7, q6 p2⟩
  | brk => obtain ⟨_, _, _, z⟩ := r; exact False.elim z
  | cont => obtain ⟨_, _, _, z⟩ := r; exact False.elim z
  | ret v => obtain ⟨_, _, _, _, _, z⟩ := r; exact False.elim z
theorem ps_try_kept (hs : X.stack = X.env :: X.outer) (hf : X.env.frame = some X.env.locals) (hN : X.N.Nodup) (hi : X.N[i]? = some n) (hln : X.env.kindOf n = some .local) (hc : Names X x c) (hex : X.ex = [])
    (hb : ∀ (W : WX) (pn : List (Addr × Obj)) (xe : Value → Shared → Prop), Takes (X.tr pn xe) W → PassesOwn (model X.prog X.w) X.A X.env xe → PSs (X.tr pn xe) body (tb W))
    (hsu : ∀ (a : Addr) (oe : Obj) (cls : Value) (d : Option Addr) (pn : List (Addr × Obj)), Zc cls d oe → (∃ vs, oe.data = .fields vs) → PSs (X.suite a ((a, oe) :: pn)) (b0 :: suite) (ts a cls d)) :
    PS X (.Try body [.ExceptHandler (some (.Name x np)) (some n) (b0 :: suite) pos'] [] [] pos) (fun D σ H => tb (wKept X.K c i ts D) D σ H) := by
  refine ⟨fun pins s σ H D I h => wpAny_Try_except ?_⟩
  have ok := I.ok
  refine wpAny_mono ((hb _ (X.pn ++ pins) _ (fun u s' q => ?_) PassesOwn.looking).run [] s σ H D (I.toTry _) h) (fun f s1 r => ?_) (fun e s1 he => he)
  · exact catch_kept hs hf hN hi hln hc hex hsu ok q
  · cases f with
    | next => obtain ⟨σ1, H1, J1, q⟩ := r; exact wpAny_execs_nil ⟨σ1, H1, J1.ofTry ok, q⟩
    | brk => obtain ⟨σ1, H1, J1, q⟩ := r; exact ⟨σ1, H1, J1.ofTry ok, q⟩
    | cont => obtain ⟨σ1, H1, J1, q⟩ := r; exact ⟨σ1, H1, J1.ofTry ok, q⟩
    | ret v => obtain ⟨v1, σ1, H1, J1, rv, q⟩ := r; exact ⟨v1, σ1, H1, J1.ofTry ok, rv, q⟩
end
end Pd
namespace Pd
open PySem L2
/-! ### texts as lists of codes -/
abbrev mkS (l : List Nat) : Str := ⟨l.toArray⟩
def splC (c : Nat) : List Nat → List (List Nat)
  | [] => [[]]
  | x :: r => if x = c then [] :: splC c r else match splC c r with
    | [] => [[x]]
    | h :: t => (x :: h) :: t
theorem splC_ne (c : Nat) : ∀ l, splC c l ≠ []
  | [] => by simp [splC]
  | x :: r => by
    unfold splC
    split
    · simp
    · split <;> simp
theorem splC_hit {c : Nat} (r : List Nat) : splC c (c :: r) = [] :: splC c r := by
  rw [splC, if_pos rfl]
theorem splC_miss {c x : Nat} (r : List Nat) (h : x ≠ c) : ∃ p t, splC c r = p :: t ∧ splC c (x :: r) = (x :: p) :: t := by
  rw [splC, if_neg h]
  cases e : splC c r with
  | nil => exact absurd e (splC_ne c r)
  | cons p t => exact ⟨p, t, rfl, rfl⟩
theorem spl_splC (c : Nat) : ∀ (l acc p : List Nat) (t : List (List Nat)), splC c l = p :: t → TL.spl [c] 0 acc l = (acc ++ p) :: t
  | [], acc, p, t, h => by
    simp only [splC, List.cons.injEq] at h
    obtain ⟨h1, h2⟩ := h
    subst h1; subst h2
    rw [TL.spl_nil, List.append_nil]
  | x :: r, acc, p, t, h => by
    by_cases hx : x = c
    · subst hx
      rw [splC_hit, List.cons.injEq] at h
      obtain ⟨h1, h2⟩ := h
      subst h1
      rw [TL.spl_hit (by simp [TL.pre]), List.append_nil]
      cases e : splC x r with
      | nil => exact absurd e (splC_ne x r)
      | cons q u =>
        have ih := spl_splC x r [] q u e
        rw [List.nil_append] at ih
        rw [← h2, e]
        exact congrArg _ ih
    · obtain ⟨q, u, e1, e2⟩ := splC_miss r hx
      rw [e2, List.cons.injEq] at h
      obtain ⟨h1, h2⟩ := h
      subst h1; subst h2
      rw [TL.spl_miss (by simp [TL.pre, hx]), spl_splC c r (acc ++ [x]) q u e1, List.append_assoc]
      rfl
theorem spl_eq (c : Nat) (l : List Nat) : TL.spl [c] 0 [] l = splC c l := by
  cases e : splC c l with
  | nil => exact absurd e (splC_ne c l)
  | cons p t => rw [spl_splC c l [] p t e, List.nil_append]
theorem split_C {a b : Str} {c : Nat} (h : b.cps.toList = [c]) (hc : c < 256) : Txt.split a b = (splC c a.cps.toList).map mkS := by
  have e := TL.split_spl a b (by rw [show TL.tl b = [c] from h]; simp) (TL.kind_ok (by rw [← Array.all_toList, h]; simpa using hc))
  rw [show TL.tl b = [c] from h, spl_eq] at e
  apply TL.map_tl_inj
  rw [e, List.map_map]
  have : (TL.tl ∘ mkS) = id := by funext l; rfl
  rw [this, List.map_id]
theorem splC_len (c : Nat) : ∀ l, (splC c l).length ≤ l.length + 1
  | [] => by simp [splC]
  | x :: r => by
    have ih := splC_len c r
    by_cases hx : x = c
    · subst hx; rw [splC_hit]; simp; omega
    · obtain ⟨q, u, e1, e2⟩ := splC_miss r hx
      rw [e2]; rw [e1] at ih; simp at ih ⊢; omega
theorem splC_mem (c : Nat) : ∀ (l : List Nat), ∀ p ∈ splC c l, (∀ d ∈ p, d ∈ l) ∧ p.length ≤ l.length
  | [], p, h => by simp [splC] at h; subst h; simp
  | x :: r, p, h => by
    have ih := splC_mem c r
    by_cases hx : x = c
    · subst hx
      rw [splC_hit] at h
      rcases List.mem_cons.mp h with h | h
      · subst h; simp
      · obtain ⟨h1, h2⟩ := ih p h
        exact ⟨fun d hd => List.mem_cons_of_mem _ (h1 d hd), by simp; omega⟩
    · obtain ⟨q, u, e1, e2⟩ := splC_miss r hx
      rw [e2] at h
      rw [e1] at ih
      rcases List.mem_cons.mp h with h | h
      · subst h
        obtain ⟨h1, h2⟩ := ih q List.mem_cons_self
        refine ⟨fun d hd => ?_, by simp; omega⟩
        rcases List.mem_cons.mp hd with hd | hd
        · rw [hd]; exact List.mem_cons_self
        · exact List.mem_cons_of_mem _ (h1 d hd)
      · obtain ⟨h1, h2⟩ := ih p (List.mem_cons_of_mem _ h)
        exact ⟨fun d hd => List.mem_cons_of_mem _ (h1 d hd), by simp; omega⟩
theorem splC_join (c : Nat) {ps : List (List Nat)} (h : ps ≠ []) (hf : ∀ p ∈ ps, c ∉ p) : splC c (TL.joinL [c] ps) = ps := by rw [← spl_eq]; exact TL.spl_join h hf
theorem len_codes (x : Str) : x.length = x.cps.toList.length := TL.len_tl x
theorem sok_codes {l : List Nat} (h1 : ∀ c ∈ l, c < 0x110000) (h2 : l.length ≤ 1000000) : sok (mkS l) = true := sok_of h1 (by rw [len_codes]; exact h2)
theorem Dens.strs {Γ : Wd} {ρ : List Addr} {F : Hp} : ∀ {ys : List Str}, (∀ y ∈ ys, sok y = true) → Dens Γ ρ F (ys.map Dt.str) (ys.map V.str)
  | [], _ => by simp only [List.map_nil, Dens]
  | y :: ys, h => by
    simp only [List.map_cons, Dens]
    exact ⟨_, _, rfl, by simp only [Den]; exact ⟨trivial, h y List.mem_cons_self⟩, Dens.strs fun z hz => h z (List.mem_cons_of_mem _ hz)⟩
section
variable {J : Cn} {X : Cx} {W : WX} {a b c e e2 o tgt iter elt : Expr} {es ifs : List Expr} {fa fb fc fe fo fi fv : Ex} {fs : List Ex} {ft fu : Tx} {pos p apos cpos tpos : Pos} {st : Stmt} {rest : List Stmt} {f1 f2 : Sx}
/-- x.split(c), c one sign -/
def dSplit (nw : List Dt → Sto → Out Dt) (x y : Dt) (s : Sto) : Out Dt := match x with
  | .str a => match y with
    | .str b => match b.cps.toList with
      | [c] => if c < 256 then nw ((splC c a.cps.toList).map fun l => .str (mkS l)) s else .bad
      | _ => .bad
    | _ => .bad
  | _ => .bad
theorem m_split {nw : List Dt → Sto → Out Dt} (n : IsNw nw) : Bm1 J X "str" "split" isStr (dSplit nw) := ⟨_, _, PySem.F.plainAttrs_str, PySem.F.slot_str_split, PySem.F.type_str_split, mt_split, ty_str, fun ρ F s H x y dx dy Q E g rx ry k => by
  cases dx with
  | str a =>
    cases dy with
    | str b =>
      simp only [Den] at rx ry
      simp only [dSplit] at k
      split at k
      · rename_i c hc
        split at k
        · rename_i h256
          have hl := sok_le rx.2
          have hla : a.cps.toList.length ≤ 1000000 := by rw [← len_codes]; exact hl
          refine ⟨a, b, rx.1, by rw [ry.1], ?_, by rw [sizeLine_eq]; omega, fun p hp => ?_⟩
          · rw [len_codes, hc]; rfl
          · rw [split_C hc h256]
            have t : Dens (wd J X) ρ F (((splC c a.cps.toList).map mkS).map Dt.str) (((splC c a.cps.toList).map mkS).map V.str) := Dens.strs fun y hy => by
              obtain ⟨l, h1, h2⟩ := List.mem_map.mp hy
              obtain ⟨h3, h4⟩ := splC_mem c _ l h1
              rw [← h2]
              exact sok_codes (fun d hd => sok_mem rx.2 (h3 d hd)) (Nat.le_trans h4 hla)
            have hz : (((splC c a.cps.toList).map mkS).map Dt.str).length ≤ sizeLine := by
              have := splC_len c a.cps.toList
              rw [List.length_map, List.length_map, sizeLine_eq]; omega
            refine new_lst (E := E) n g t hz hp ?_
            rw [List.map_map]
            exact k
        · exact False.elim k
      · exact False.elim k
    | _ => exact False.elim k
  | _ => exact False.elim k⟩
/-- texts alone -/
def asS : List Dt → Option (List Str)
  | [] => some []
  | .str b :: r => (asS r).map (b :: ·)
  | _ => none
theorem asS_map : ∀ (ys : List Str), asS (ys.map Dt.str) = some ys
  | [] => rfl
  | y :: ys => by simp only [List.map_cons, asS, asS_map ys, Option.map_some]
theorem Dens.texts {Γ : Wd} {ρ : List Addr} {F : Hp} : ∀ {l : List Dt} {xs : List V} {ys : List Str}, Dens Γ ρ F l xs → asS l = some ys → xs = ys.map V.str ∧ ∀ y ∈ ys, sok y = true
  | [], xs, ys, h, e => by simp only [Dens] at h; simp only [asS, Option.some.injEq] at e; subst e; exact ⟨h, fun _ h => nomatch h⟩
  | d :: l, xs, ys, h, e => by
    simp only [Dens] at h
    obtain ⟨v, r, e1, q, t⟩ := h
    cases d with
    | str b =>
      simp only [asS, Option.map_eq_some_iff] at e
      obtain ⟨ys', e2, e3⟩ := e
      simp only [Den] at q
      obtain ⟨h1, h2⟩ := Dens.texts t e2
      subst e3; subst e1
      rw [q.1, h1]
      refine ⟨rfl, fun y hy => ?_⟩
      rcases List.mem_cons.mp hy with hy | hy
      · rw [hy]; exact q.2
      · exact h2 y hy
    | _ => simp [asS] at e
/-- sep.join(..) -/
def dJoin (x y : Dt) (s : Sto) : Out Dt := match x with
  | .str a => match (asQ s y).bind asS with
    | some ys => if (ys.map (·.length)).sum + ys.length * a.length ≤ 1000000 then .ok (.str (mkS (TL.joinL a.cps.toList (ys.map (·.cps.toList))))) s else .bad
    | none => .bad
  | _ => .bad
theorem joinL_mem {S : List Nat} : ∀ {ps : List (List Nat)} {c : Nat}, c ∈ TL.joinL S ps → c ∈ S ∨ ∃ p ∈ ps, c ∈ p
  | [], c, h => by simp [TL.joinL] at h
  | [p], c, h => .inr ⟨p, List.mem_cons_self, h⟩
  | p :: q :: r, c, h => by
    simp only [TL.joinL, List.mem_append] at h
    rcases h with h | h | h
    · exact .inr ⟨p, List.mem_cons_self, h⟩
    · exact .inl h
    · rcases joinL_mem h with h | ⟨z, h1, h2⟩
      · exact .inl h
      · exact .inr ⟨z, List.mem_cons_of_mem _ h1, h2⟩
theorem joinL_len {S : List Nat} : ∀ (ps : List (List Nat)), (TL.joinL S ps).length ≤ (ps.map (·.length)).sum + ps.length * S.length
  | [] => by simp [TL.joinL]
  | [p] => by simp [TL.joinL]
  | p :: q :: r => by
    have ih := joinL_len (S := S) (q :: r)
    simp only [TL.joinL, List.length_append, List.map_cons, List.sum_cons, List.length_cons] at ih ⊢
    rw [Nat.succ_mul (r.length + 1)]
    omega
theorem m_join : Bm1 J X "str" "join" isStr dJoin := ⟨_, _, PySem.F.plainAttrs_str, PySem.F.slot_str_join, PySem.F.type_str_join, mt_join, ty_str, fun ρ F s H x y dx dy Q E g rx ry k => by
  cases dx with
  | str a =>
    simp only [Den] at rx
    simp only [dJoin] at k
    split at k
    · rename_i ys hys
      split at k
      · rename_i hz
        obtain ⟨l, e1, e2⟩ := Option.bind_eq_some_iff.mp hys
        obtain ⟨ad, xs, e3, q, t, _⟩ := g.sqQ ry e1
        obtain ⟨e4, hs⟩ := t.texts e2
        subst e4
        have ej : Txt.join a ys = mkS (TL.joinL a.cps.toList (ys.map (·.cps.toList))) := by
          apply TL.ext_tl
          rw [TL.join_eq, TL.tl_join]
        refine ⟨a, ad, ys, rx.1, by rw [e3], q, by omega, ?_⟩
        rw [ej]
        refine k ρ F H _ LE.refl g ?_
        simp only [Den]
        refine ⟨trivial, sok_codes (fun c hc => ?_) ?_⟩
        · rcases joinL_mem hc with h | ⟨p, h1, h2⟩
          · exact sok_mem rx.2 h
          · obtain ⟨z, h3, h4⟩ := List.mem_map.mp h1
            rw [← h4] at h2
            exact sok_mem (hs z h3) h2
        · have h1 := joinL_len (S := a.cps.toList) (ys.map (·.cps.toList))
          rw [List.map_map, List.length_map, ← len_codes] at h1
          have h2 : (ys.map ((fun x => x.length) ∘ fun x : Str => x.cps.toList)) = ys.map (·.length) := List.map_congr_left fun z _ => (len_codes z).symm
          rw [h2] at h1
          omega
      · exact False.elim k
    · exact False.elim k
  | _ => exact False.elim k⟩
/-- xs.index(y), flat things, it is there -/
def dIndex (x y : Dt) (s : Sto) : Out Dt := match asL s x with
  | some l => if flatD y && l.all flatD then ofO s ((l.findIdx? fun e => feq e y).map fun (j : Nat) => .int j) else .bad
  | none => .bad
theorem m_index : Bm1 J X "list" "index" isLst dIndex := ⟨_, _, PySem.F.plainAttrs_list, PySem.F.slot_list_index, PySem.F.type_list_index, mt_index, ty_lst, fun ρ F s H x y dx dy Q E g rx ry k => by
  unfold dIndex at k
  split at k
  · rename_i l hl
    split at k
    · rename_i hf
      simp only [Bool.and_eq_true] at hf
      obtain ⟨d, e, k⟩ := Po.ofO k
      obtain ⟨j, e1, e2⟩ := Option.map_eq_some_iff.mp e
      subst e2
      obtain ⟨ad, xs, e3, q, t, _⟩ := g.sqL rx hl
      have e4 := t.flat hf.2
      have e5 := ry.flat hf.1
      obtain ⟨hj, h1, h2⟩ := List.findIdx?_eq_some_iff_getElem.mp e1
      have fl : ∀ (m : Nat) (hm : m < l.length), flatD l[m] = true := fun m hm => List.all_eq_true.mp hf.2 _ (List.getElem_mem hm)
      subst e4; subst e5
      refine ⟨ad, _, _, j, toVd l[j], e3, rfl, q, flatV_toVd _, all_flat_map _, by rw [List.getElem?_map, List.getElem?_eq_getElem hj]; rfl, by rw [eqV_toVd (fl j hj) hf.1]; exact h1, fun m z' hm hz => ?_, k ρ F H _ LE.refl g (by simp only [Den])⟩
      have hml : m < l.length := by omega
      rw [List.getElem?_map, List.getElem?_eq_getElem hml] at hz
      have hz2 : toVd l[m] = z' := Option.some.inj hz
      rw [← hz2, eqV_toVd (fl m hml) hf.1]
      simpa using h2 m hm
    · exact False.elim k
  · exact False.elim k⟩
/-! ### o[i] = v -/
def putAt (x y v : Dt) (s : Sto) : Option Sto := match y with
  | .int k => match lstAt s x with
    | some (i, l) => (ixN l.length k).map fun j => s.set i (.lst (l.set j v))
    | none => none
  | _ => none
def sSetI (fo fi fv : Ex) : Sx := fun env => sBnd (fv env) env fun v => sBnd (fo env) env fun x => sBnd (fi env) env fun y s => match putAt x y v s with
  | some s' => .fl (.nx env) s'
  | none => .bad
theorem ss_setI (ho : ES J X W o fo) (hi : ES J X W e fi) (hv : ES J X W e2 fv)
    (ha : ∀ v, assign (.Subscript o e tpos) X.env v = (do
      let ov ← holding [v] (eval o X.env)
      let iv ← holding [v, ov] (eval e X.env)
      standAt tpos
      holding [v, ov, iv] (setItem ov iv v)
      release [v, ov, iv] []) := by intro _; rfl)
    (hs : swapsWithSole [.Subscript o e tpos] e2 pos.line X.env = pure false := by rfl) (hw : swappedStores [.Subscript o e tpos] e2 X.env = pure none := by rfl)
    (h1 : (assignEach [.Subscript o e tpos] X.env).map (·.2) = [assign (.Subscript o e tpos) X.env] := by rfl) : SS J X W (.Assign [.Subscript o e tpos] e2 pos) (sSetI fo fi fv) :=
  PS.imp (ps_asg hv (pg_sub ho hi set_list ha) hs hw h1) fun D σ H ⟨env, ρ, F, s, g, l, k⟩ => ⟨env, ρ, F, s, g, l, FPo.bind k l fun v s1 ρ1 F1 H1 u e1 l1 g1 r1 k1 =>
    ⟨env, ρ1, F1, s1, g1, l.mono l1, FPo.bind k1 (l.mono l1) fun x s2 ρ2 F2 H2 ov e3 l2 g2 r2 k2 =>
      ⟨env, ρ2, F2, s2, g2, l.mono (l1.trans l2), FPo.bind k2 (l.mono (l1.trans l2)) fun y s3 ρ3 F3 H3 iv e4 l3 g3 r3 k3 => by
        cases ep : putAt x y v s3 with
        | none => rw [ep] at k3; exact False.elim k3
        | some s4 =>
          rw [ep] at k3
          cases y with
          | int n =>
            simp only [putAt] at ep
            split at ep
            · rename_i i xs hl
              obtain ⟨j, hj, ej⟩ := Option.map_eq_some_iff.mp ep
              subst ej
              obtain ⟨ad, vs, h1, h2, h3, h4, h5⟩ := g3.lat (Den.mono l3 _ _ r2) hl
              simp only [Den] at r3
              have hlen : xs.length = vs.length := h4.length
              refine ⟨ad, vs, n, j, h1, r3, h3, by rw [← hlen]; exact hj, ?_⟩
              exact k3 ρ3 F3 _ σ (LE.put (List.mem_of_getElem? h2)) (g3.setL h2 h3 (Dens.set (Den.mono (l2.trans l3) _ _ r1) j h4) (by rw [List.length_set]; exact h5)) (l.mono ((l1.trans l2).trans l3))
            · cases ep
          | _ => simp [putAt] at ep⟩⟩⟩
/-! ### recursion -/
end
end Pd
namespace Pd
open PySem L2
section
variable {J : Cn} {X : Cx} {W : WX} {a b c e e2 o tgt iter elt : Expr} {es ifs : List Expr} {fa fb fc fe fo fi fv : Ex} {fs : List Ex} {ft fu : Tx} {pos p p2 apos cpos tpos : Pos} {st : Stmt} {rest : List Stmt} {f1 f2 : Sx}
/-! ### isinstance of a caught error -/
def rIsX (K : PySem.W.Frag) : List V → Hp → VK → Prop := fun xs H Q => ∃ (a D : Addr) (c : V) (cv : Value) (b : Bool), xs = [.ref a, c] ∧ ClsV c cv ∧ H a = some (ExH D a) ∧ ExcC K D ∧ PySem.W.kitOne K (.ref D) cv = some b ∧ Q (.bl b) H
theorem call_isX : CallR X (.builtin "isinstance") (rIsX X.K) := by
  intro pins s σ H xs us Q I r h
  obtain ⟨a, D, c, cv, b, rfl, k, hH, C, e, q⟩ := h
  obtain ⟨u1, u2, rfl, r1, r2⟩ := vals2 r
  have e2 := k.eq r2
  subst e2
  cases (show u1 = Value.ref a from r1)
  obtain ⟨⟨oe, vs, hget, hz, hv⟩, _⟩ := I.hok a _ hH
  have J : PySem.W.InstAt s.heap a oe D none := by
    obtain ⟨oc, od, oda, osl⟩ := oe
    obtain ⟨h1, h2⟩ := hz
    dsimp only at h1 h2 hv
    subst h1 h2 hv
    exact ⟨hget, rfl, rfl, trivial⟩
  exact PySem.W.kia_one (PySem.W.handS_kitx_exc C.hg C.hk C.hs C.hd C.ha C.hn C.ht C.hm) I.kIn J e (fun z => nomatch z) fun tk => ⟨.bl b, H, I.kept (t' := tk) fun _ _ z => z, rfl, q⟩
/-- of which classes errors are instances of cv -/
def IsxF (J : Cn) (K : PySem.W.Frag) (mg : Str → Option Value) (tb : List (Nat × Bool)) (cv : Value) : Prop := ∀ n b, tb.lookup n = some b → ∀ C, mg (J n).1 = some (.ref C) → ExcC K C ∧ PySem.W.kitOne K (.ref C) cv = some b
theorem isx_nil {K : PySem.W.Frag} {mg : Str → Option Value} {cv : Value} : IsxF J K mg [] cv := fun n b h => by cases h
theorem isx_cons {K : PySem.W.Frag} {mg : Str → Option Value} {cv : Value} {n : Nat} {b : Bool} {tb : List (Nat × Bool)} {C : Addr} (hC : mg (J n).1 = some (.ref C)) (hE : ExcC K C) (hk : PySem.W.kitOne K (.ref C) cv = some b) (hr : IsxF J K mg tb cv) : IsxF J K mg ((n, b) :: tb) cv := fun m b' h C' hC' => by
  rw [List.lookup_cons] at h
  split at h
  · rename_i q
    have e := eq_of_beq q
    subst e
    cases h
    have z := hC.symm.trans hC'
    cases z
    exact ⟨hE, hk⟩
  · exact hr m b' h C' hC'
def dIsx (tb : List (Nat × Bool)) (d : Dt) (s : Sto) : Out Dt := match d with
  | .exc c => ofO s ((tb.lookup c).map .bl)
  | _ => .bad
theorem isx_of {tb : List (Nat × Bool)} {cv : Value} {c : V} (hcv : ClsV c cv) (hf : IsxF J X.K X.mg tb cv) {ρ : List Addr} {F H : Hp} {s : Sto} {x : V} {d : Dt} {Q : VK} {E : Value → Hp → Prop} (g : G (wd J X) ρ F s H) (r : Den (wd J X) ρ F d x) (k : EPo (wd J X) ρ F H Q E (dIsx tb d s)) : rIsX X.K [x, c] H Q := by
  cases d with
  | exc n =>
    simp only [Den] at r
    obtain ⟨ad, C, e1, hC, hF⟩ := r
    obtain ⟨d, e3, k1⟩ := Po.ofO k
    obtain ⟨t, e4, e5⟩ := Option.map_eq_some_iff.mp e3
    subst e5
    obtain ⟨hE, hk⟩ := hf n t e4 C hC
    exact ⟨ad, C, c, cv, t, by rw [e1], hcv, g.sub _ _ hF, hE, hk, k1 ρ F H _ LE.refl g (by simp only [Den])⟩
  | _ => exact False.elim k
theorem es_isx {T : Str} {C : Addr} {tb : List (Nat × Bool)} (hf : IsxF J X.K X.mg tb (.ref C)) (hg : Gl X "isinstance") (hm : X.mg "isinstance" = none) (hgT : Gl X T) (hmT : X.mg T = some (.ref C)) (ha : ES J X W e fe)
    (hd : (T == ("__debug__" : Str)) = false := by decide)
    (he : starEach [e, .Name T p2] X.env = [(false, eval e X.env), (false, eval (.Name T p2) X.env)] := by rfl) : ES J X W (.Call (.Name "isinstance" p) [e, .Name T p2] [] pos) (eUn (dIsx tb) fe) :=
  PE.imp (pe_callB call_isX hg hm (by decide +kernel) (pa_cons ha (pa_cons (pe_glob (v := .ref C) hgT hmT rfl hd) pa_nil rfl) (by exact he)) (by decide) (by decide) (by exact he) rfl) fun σ H Q ⟨env, ρ, F, s, g, l, k⟩ => ⟨env, ρ, F, s, g, l, Po.bind k fun x s1 ρ1 F1 H1 v e1 l1 g1 r1 k1 => isx_of (.own C) hf g1 r1 k1⟩
theorem es_isxT {T : Str} {n : String} {tb : List (Nat × Bool)} (hf : IsxF J X.K X.mg tb (.type n)) (hg : Gl X "isinstance") (hm : X.mg "isinstance" = none) (hgT : Gl X T) (hmT : X.mg T = none) (hv : bootBuiltins T = some (.type n)) (ha : ES J X W e fe)
    (hn : T ≠ "__name__" := by decide) (hd : (T == ("__debug__" : Str)) = false := by decide)
    (he : starEach [e, .Name T p2] X.env = [(false, eval e X.env), (false, eval (.Name T p2) X.env)] := by rfl) : ES J X W (.Call (.Name "isinstance" p) [e, .Name T p2] [] pos) (eUn (dIsx tb) fe) :=
  PE.imp (pe_callB call_isX hg hm (by decide +kernel) (pa_cons ha (pa_cons (pe_bltn (v := .ty n) hgT hmT hv rfl hn hd) pa_nil rfl) (by exact he)) (by decide) (by decide) (by exact he) rfl) fun σ H Q ⟨env, ρ, F, s, g, l, k⟩ => ⟨env, ρ, F, s, g, l, Po.bind k fun x s1 ρ1 F1 H1 v e1 l1 g1 r1 k1 => isx_of (.ty n) hf g1 r1 k1⟩
/-! ### try: .. except C as n: held = n -/
/-- errors of these classes are taken by the clause of cv -/
def XmF (J : Cn) (K : PySem.W.Frag) (mg : Str → Option Value) (tb : List Nat) (cv : Value) : Prop := ∀ n, n ∈ tb → ∀ C, mg (J n).1 = some (.ref C) → PySem.W.exmOne K (.ref C) cv = some true
theorem xm_nil {K : PySem.W.Frag} {mg : Str → Option Value} {cv : Value} : XmF J K mg [] cv := fun n h => nomatch h
theorem xm_cons {K : PySem.W.Frag} {mg : Str → Option Value} {cv : Value} {n : Nat} {tb : List Nat} {C : Addr} (hC : mg (J n).1 = some (.ref C)) (hk : PySem.W.exmOne K (.ref C) cv = some true) (hr : XmF J K mg tb cv) : XmF J K mg (n :: tb) cv := fun m h C' hC' => by
  rcases List.mem_cons.mp h with e | h
  · subst e
    have z := hC.symm.trans hC'
    cases z
    exact hk
  · exact hr m h C' hC'
def sTryH (ih ie : Nat) (tb : List Nat) (fb : Sx) : Sx := fun env s => match fb env s with
  | .exc c env' s' => if c ∈ tb ∧ ie < env'.length then .fl (.nx ((env'.set ih (some (.exc c))).set ie none)) s' else .bad
  | r => r
theorem ss_try_held {x n h : Str} {cv : Value} {ie ih : Nat} {tb : List Nat} {body : List Stmt} {np pos' hp ep hpos : Pos} {fb : Sx} (hs : X.stack = X.env :: X.outer) (hf : X.env.frame = some X.env.locals) (hN : X.N.Nodup) (hi : X.N[ie]? = some n) (hln : X.env.kindOf n = some .local) (hc : Names X x cv) (hex : X.ex = []) (hm : XmF J X.K X.mg tb cv)
    (hb : ∀ (W : WX) (pn : List (Addr × Obj)) (xe : Value → Shared → Prop), Tks false (X.tr pn xe) W → PassesOwn (model X.prog X.w) X.A X.env xe → SSs J (X.tr pn xe) W body fb)
    (hv : ∀ (a : Addr) (pn : List (Addr × Obj)), PE (X.suite a pn) (.Name n ep) (tVar ie)) (hg : ∀ (a : Addr) (pn : List (Addr × Obj)), PG (X.suite a pn) (.Name h hp) (gName ih))
    (hsw : ∀ (a : Addr) (pn : List (Addr × Obj)), swapsWithSole [.Name h hp] (.Name n ep) hpos.line (X.suite a pn).env = pure false := by intro _ _; rfl) (hw : ∀ (a : Addr) (pn : List (Addr × Obj)), swappedStores [.Name h hp] (.Name n ep) (X.suite a pn).env = pure none := by intro _ _; rfl)
    (h1 : ∀ (a : Addr) (pn : List (Addr × Obj)), (assignEach [.Name h hp] (X.suite a pn).env).map (·.2) = [assign (.Name h hp) (X.suite a pn).env] := by intro _ _; rfl) :
    SS J X W (.Try body [.ExceptHandler (some (.Name x np)) (some n) [.Assign [.Name h hp] (.Name n ep) hpos] pos'] [] [] pos) (sTryH ih ie tb fb) := by
  refine PS.imp (ps_try_kept (tb := fun W => tS (wd J X) W fb) (ts := fun a cls d => tAsg (tVar ie) (gName ih)) hs hf hN hi hln hc hex (fun W pn xe tk po => hb W pn xe tk po) (fun a oe cls d pn _ _ => pss_one (ps_asg (hv a _) (hg a _) (hsw a _) (hw a _) (h1 a _)))) fun D σ H ⟨env, ρ, F, s, g, l, k⟩ => ⟨env, ρ, F, s, g, l, ?_⟩
  unfold sTryH at k
  cases er : fb env s with
  | fl f s1 => rw [er] at k; cases f <;> exact k
  | bad => rw [er] at k; exact k
  | exc cn env1 s1 =>
    rw [er] at k
    simp only [] at k
    split at k
    · rename_i hq
      intro ρ1 F1 H1 σ1 C l1 g1 sl1 hC
      refine ⟨hm cn hq.1 C hC, C, rfl, rfl, fun a ha => ?_⟩
      have hlen : ie < σ1.length := by rw [← sl1.len]; exact hq.2
      refine ⟨.ref a, List.getElem?_set_self hlen, fun hn => ?_⟩
      have g2 := g1.frz (ExH C a) ha
      have l2 := LE.frz (o := ExH C a) g1 ha
      have dx : Den (wd J X) ρ1 (upd F1 a (ExH C a)) (.exc cn) (.ref a) := by
        simp only [Den]
        exact ⟨a, C, rfl, hC, upd_same⟩
      refine k ρ1 _ _ _ (l1.trans l2) g2 ?_
      have s3 := ((sl1.mono l2).set dx ih).unset ie
      refine ⟨by rw [s3.len]; simp, fun i d hd => ?_⟩
      obtain ⟨v, q1, q2⟩ := s3.at_ i d hd
      refine ⟨v, ?_, q2⟩
      rw [← q1]
      by_cases e1 : ie = i
      · subst e1
        rw [List.getElem?_set_self (by simpa using hlen), List.getElem?_set_self (by simpa using hlen)]
      · rw [List.getElem?_set_ne e1, List.getElem?_set_ne e1]
        by_cases e2 : ih = i
        · subst e2
          by_cases e3 : ih < σ1.length
          · rw [List.getElem?_set_self (by simpa using e3), List.getElem?_set_self (by simpa using e3)]
          · rw [List.getElem?_eq_none (by simpa using e3), List.getElem?_eq_none (by simpa using e3)]
        · rw [List.getElem?_set_ne e2, List.getElem?_set_ne e2, List.getElem?_set_ne e1]
    · exact False.elim k
/-! ### xs.count(y), flat things -/
theorem count_eqU {x : V} : ∀ {xs : List V} {us : List Value}, Vals xs us → xs.all flatV = true → us.countP (eqU x) = xs.countP fun y => eqV y x
  | _, _, .nil, _ => rfl
  | y :: ys, u :: us, .cons r t, f => by
    simp only [List.all_cons, Bool.and_eq_true] at f
    rw [List.countP_cons, List.countP_cons, count_eqU t f.2, eqU_of r f.1]
def rCntF (K : PySem.W.Frag) : V → List V → Hp → VK → Prop := fun x xs H Q => ∃ (p : Addr) (ys : List V) (y : V), x = .ref p ∧ xs = [y] ∧ SqL K H p ys ∧ flatV y = true ∧ ys.all flatV = true ∧ Q (.int ((ys.countP fun z => eqV z y : Nat) : Int)) H
theorem mt_cntF : MtR X "list.count" (rCntF X.K) := by
  intro pins s σ H x xs v us Q I rx rxs h
  obtain ⟨p, ys, y, rfl, rfl, hs, fy, fs, q⟩ := h
  cases rx
  obtain ⟨u, rfl, ru⟩ := rxs.one
  obtain ⟨its, rv, ⟨⟨cls, dd, data, sl⟩, n, ho, hc, hdn, hd⟩, hlen⟩ := I.list hs
  simp only at hc hd
  subst hc hd
  refine call_meets PySem.F.slot_list_count ⟨_, ho, rfl⟩ PySem.F.entry_list_count (PySem.F.args_list_count_2 _ _)
    (SeqAt.list_countAt p its.toArray n dd sl u (eqU y)) ⟨ho, fun w hw => mem_eqAt ru fy rv fs w (by simpa using hw), ?_⟩
  have ec : its.toArray.toList.countP (eqU y) = ys.countP fun z => eqV z y := count_eqU rv fs
  refine ⟨.int ((ys.countP fun z => eqV z y : Nat) : Int), H, I.tok _, ⟨s.toks, ?_⟩, q⟩
  show Value.int ((its.toArray.toList.countP (eqU y) : Nat) : Int) s.toks = Value.int ((ys.countP fun z => eqV z y : Nat) : Int) s.toks
  rw [ec]
def dCount (x y : Dt) (s : Sto) : Out Dt := match asL s x with
  | some l => if flatD y && l.all flatD then .ok (.int ((l.countP fun e => feq e y : Nat) : Int)) s else .bad
  | none => .bad
theorem count_toVd {x : Dt} (hx : flatD x = true) : ∀ {ds : List Dt}, ds.all flatD = true → ((ds.map toVd).countP fun z => eqV z (toVd x)) = ds.countP fun e => feq e x
  | [], _ => rfl
  | d :: ds, k => by
    simp only [List.all_cons, Bool.and_eq_true] at k
    rw [List.map_cons, List.countP_cons, List.countP_cons, count_toVd hx k.2, eqV_toVd k.1 hx]
theorem m_count : Bm1 J X "list" "count" isLst dCount := ⟨_, _, PySem.F.plainAttrs_list, PySem.F.slot_list_count, PySem.F.type_list_count, mt_cntF, ty_lst, fun ρ F s H x y dx dy Q E g rx ry k => by
  unfold dCount at k
  split at k
  · rename_i l hl
    split at k
    · rename_i hf
      simp only [Bool.and_eq_true] at hf
      obtain ⟨ad, xs, e3, q, t, _⟩ := g.sqL rx hl
      have e4 := t.flat hf.2
      have e5 := ry.flat hf.1
      subst e4; subst e5
      refine ⟨ad, _, _, e3, rfl, q, flatV_toVd _, all_flat_map _, ?_⟩
      rw [count_toVd hf.1 hf.2]
      exact k ρ F H _ LE.refl g (by simp only [Den])
    · exact False.elim k
  · exact False.elim k⟩
end
end Pd
namespace Pd
open PySem L2
section
variable {J : Cn} {X : Cx} {W : WX} {a b c e e2 o tgt iter elt : Expr} {es ifs : List Expr} {fa fb fc fe fo fi fv : Ex} {fs : List Ex} {ft fu : Tx} {pos p p2 apos cpos tpos : Pos} {st : Stmt} {rest : List Stmt} {f1 f2 : Sx}
/-! ### a, b = x, y -/
/-! ### is, is not of truths -/
/-! ### list * int -/
def dRep (nw : List Dt → Sto → Out Dt) (x y : Dt) (s : Sto) : Out Dt := match y with
  | .int k => match trkL s x with
    | some l => if k < 1000000 ∧ -1000000 < k ∧ l.length * k.toNat ≤ sizeLine then nw (List.replicate k.toNat l).flatten s else .bad
    | none => .bad
  | _ => .bad
theorem Dens.rep {Γ : Wd} {ρ : List Addr} {F : Hp} {l : List Dt} {xs : List V} (t : Dens Γ ρ F l xs) : ∀ n : Nat, Dens Γ ρ F (List.replicate n l).flatten (List.replicate n xs).flatten
  | 0 => by simp [Dens]
  | n + 1 => by
    rw [List.replicate_succ, List.replicate_succ, List.flatten_cons, List.flatten_cons]
    exact Dens.append t (Dens.rep t n)
theorem es_rep {nw : List Dt → Sto → Out Dt} (n : IsNw nw) (ha : ES J X W a fa) (hb : ES J X W b fb) : ES J X W (.BinOp a .Mult b pos) (eOp (dRep nw) fa fb) :=
  es_op op_rep (fun ρ F s H x y dx dy Q E g rx ry k => by
    cases dy with
    | int m =>
      simp only [Den] at ry
      simp only [dRep] at k
      split at k
      · rename_i l hl
        split at k
        · rename_i hz
          obtain ⟨ad, xs, e1, q, t, _⟩ := g.trk rx hl
          have hlen : (List.replicate m.toNat l).flatten.length ≤ sizeLine := by
            rw [List.length_flatten, List.map_replicate, List.sum_replicate_nat, Nat.mul_comm]
            exact hz.2.2
          exact ⟨ad, m, xs, e1, ry, q, by omega, by omega, by rw [← t.length]; exact hz.2.2, fun p hp => new_lst n g (t.rep m.toNat) hlen hp k⟩
        · exact False.elim k
      · exact False.elim k
    | _ => exact False.elim k) ha hb
end
end Pd
namespace Pd
open PySem L2
/-! ### tables -/
section
variable {κ α : Type} [DecidableEq κ]
def valA (kvs : List (κ × α)) (k : κ) : Option α := (kvs.find? fun kv => decide (kv.1 = k)).map (·.2)
def putA (kvs : List (κ × α)) (k : κ) (v : α) : List (κ × α) :=
  if (kvs.any fun kv => decide (kv.1 = k)) = true then kvs.map (fun kv => if kv.1 = k then (kv.1, v) else kv) else kvs ++ [(k, v)]
def dropA (kvs : List (κ × α)) (k : κ) : List (κ × α) := kvs.filter fun kv => decide (kv.1 ≠ k)
variable {Γ : Wd} {ρ : List Addr} {F : Hp}
theorem DenK.val : ∀ {kvs : List (κ × Dt)} {vs : List (κ × V)} (k : κ), DenK Γ ρ F kvs vs → (valA kvs k = none ∧ valV vs k = none) ∨ ∃ d v, valA kvs k = some d ∧ valV vs k = some v ∧ Den Γ ρ F d v
  | [], vs, k, h => by
    simp only [DenK] at h
    subst h
    exact .inl ⟨rfl, rfl⟩
  | (f, d) :: r, vs, k, h => by
    obtain ⟨v, r', e, q, t⟩ := h
    subst e
    by_cases hf : f = k
    · refine .inr ⟨d, v, ?_, ?_, q⟩
      · simp [valA, List.find?_cons, hf]
      · simp [valV, List.find?_cons, hf]
    · rcases DenK.val k t with ⟨h1, h2⟩ | ⟨d', v', h1, h2, h3⟩
      · refine .inl ⟨?_, ?_⟩
        · rw [← h1]; simp [valA, List.find?_cons, hf]
        · rw [← h2]; simp [valV, List.find?_cons, hf]
      · refine .inr ⟨d', v', ?_, ?_, h3⟩
        · rw [← h1]; simp [valA, List.find?_cons, hf]
        · rw [← h2]; simp [valV, List.find?_cons, hf]
theorem DenK.any : ∀ {kvs : List (κ × Dt)} {vs : List (κ × V)} (k : κ), DenK Γ ρ F kvs vs → (kvs.any fun kv => decide (kv.1 = k)) = vs.any fun kv => decide (kv.1 = k)
  | [], vs, k, h => by simp only [DenK] at h; subst h; rfl
  | (f, d) :: r, vs, k, h => by
    obtain ⟨v, r', e, q, t⟩ := h
    subst e
    rw [List.any_cons, List.any_cons, DenK.any k t]
theorem DenK.repl {d : Dt} {v : V} (hd : Den Γ ρ F d v) : ∀ {kvs : List (κ × Dt)} {vs : List (κ × V)} (k : κ), DenK Γ ρ F kvs vs → DenK Γ ρ F (kvs.map fun kv => if kv.1 = k then (kv.1, d) else kv) (vs.map fun kv => if kv.1 = k then (kv.1, v) else kv)
  | [], vs, k, h => by simp only [DenK] at h; subst h; simp [DenK]
  | (f, d') :: r, vs, k, h => by
    obtain ⟨v', r', e, q, t⟩ := h
    subst e
    rw [List.map_cons, List.map_cons]
    by_cases hf : f = k
    · simp only [hf, if_true]
      exact ⟨v, _, rfl, hd, DenK.repl hd k t⟩
    · simp only [hf, if_false]
      exact ⟨v', _, rfl, q, DenK.repl hd k t⟩
theorem DenK.snoc {d : Dt} {v : V} (hd : Den Γ ρ F d v) (k : κ) : ∀ {kvs : List (κ × Dt)} {vs : List (κ × V)}, DenK Γ ρ F kvs vs → DenK Γ ρ F (kvs ++ [(k, d)]) (vs ++ [(k, v)])
  | [], vs, h => by
    simp only [DenK] at h
    subst h
    exact ⟨v, [], rfl, hd, rfl⟩
  | (f, d') :: r, vs, h => by
    obtain ⟨v', r', e, q, t⟩ := h
    subst e
    exact ⟨v', _, rfl, q, DenK.snoc hd k t⟩
theorem DenK.put {d : Dt} {v : V} (hd : Den Γ ρ F d v) (k : κ) {kvs : List (κ × Dt)} {vs : List (κ × V)} (h : DenK Γ ρ F kvs vs) : DenK Γ ρ F (putA kvs k d) (putK vs k v) := by
  unfold putA putK
  rw [h.any k]
  split
  · exact DenK.repl hd k h
  · exact DenK.snoc hd k h
theorem DenK.drop (k : κ) : ∀ {kvs : List (κ × Dt)} {vs : List (κ × V)}, DenK Γ ρ F kvs vs → DenK Γ ρ F (dropA kvs k) (dropK vs k)
  | [], vs, h => by simp only [DenK] at h; subst h; exact rfl
  | (f, d') :: r, vs, h => by
    obtain ⟨v', r', e, q, t⟩ := h
    subst e
    have ih := DenK.drop k t
    unfold dropA dropK at ih ⊢
    rw [List.filter_cons, List.filter_cons]
    by_cases hf : f = k
    · simp only [hf, ne_eq, not_true_eq_false, decide_false, Bool.false_eq_true, if_false]
      exact ih
    · simp only [hf, ne_eq, not_false_eq_true, decide_true, if_true]
      exact ⟨v', _, rfl, q, ih⟩
end
/-! ### keys -/
def keyD : Dt → Option Key
  | .int i => some (.inl i)
  | .str x => some (.inr x)
  | _ => none
def keysL : List Dt → Option (List Key)
  | [] => some []
  | d :: r => match keyD d, keysL r with
    | some k, some ks => some (k :: ks)
    | _, _ => none
def keysD : Dt → Option (List Key)
  | .tup l => keysL l
  | _ => none
section
variable {Γ : Wd} {ρ : List Addr} {F H : Hp} {s : Sto}
theorem Den.key {d : Dt} {v : V} {k : Key} (h : Den Γ ρ F d v) (e : keyD d = some k) : v = kV k ∧ kOk k = true := by
  cases d with
  | int i => simp only [Den] at h; simp only [keyD, Option.some.injEq] at e; subst e; exact ⟨h, rfl⟩
  | str x => simp only [Den] at h; simp only [keyD, Option.some.injEq] at e; subst e; exact h
  | _ => simp [keyD] at e
theorem Dens.keys : ∀ {ds : List Dt} {vs : List V} {ks : List Key}, Dens Γ ρ F ds vs → keysL ds = some ks → vs = ks.map kV ∧ ks.all kOk = true
  | [], vs, ks, h, e => by
    simp only [Dens] at h; simp only [keysL, Option.some.injEq] at e
    subst h; subst e
    exact ⟨rfl, rfl⟩
  | d :: ds, vs, ks, h, e => by
    simp only [Dens] at h; simp only [keysL] at e
    obtain ⟨v, r, e1, q, t⟩ := h
    split at e
    · rename_i k ks' h1 h2
      cases e
      obtain ⟨a1, a2⟩ := q.key h1
      obtain ⟨b1, b2⟩ := Dens.keys t h2
      subst e1
      rw [a1, b1]
      exact ⟨rfl, by rw [List.all_cons, a2, b2]; rfl⟩
    · cases e
/-- what a dict of the store holds at a key -/
def dgetD (s : Sto) (x y : Dt) : Option (Option Dt) := match x with
  | .obj i => match s[i]? with
    | some (.dic kvs) => (keyD y).map (valA kvs)
    | some (.dicL kvs) => (keyD y).map (valA kvs)
    | some (.dit kvs) => (keysD y).map (valA kvs)
    | some (.ditL kvs) => (keysD y).map (valA kvs)
    | _ => none
  | _ => none
def ROD (Γ : Wd) (ρ : List Addr) (F : Hp) (o : Option Dt) (r : Option V) : Prop := (o = none ∧ r = none) ∨ ∃ d v, o = some d ∧ r = some v ∧ Den Γ ρ F d v
theorem Den.tupAt (g : G Γ ρ F s H) {d : Dt} {v : V} {ks : List Key} (h : Den Γ ρ F d v) (e : keysD d = some ks) : ∃ b, v = .ref b ∧ H b = some (.tup (ks.map kV)) ∧ ks.all kOk = true := by
  cases d with
  | tup l =>
    simp only [Den] at h
    obtain ⟨_, a, xs, e1, q, t⟩ := h
    obtain ⟨h1, h2⟩ := t.keys e
    subst h1
    exact ⟨a, e1, g.sub _ _ q, h2⟩
  | _ => simp [keysD] at e
theorem G.dget (g : G Γ ρ F s H) {x y : Dt} {v u : V} {o : Option Dt} (rx : Den Γ ρ F x v) (ry : Den Γ ρ F y u) (e : dgetD s x y = some o) : ∃ a r, v = .ref a ∧ DGet H a u r ∧ ROD Γ ρ F o r ∧ IsD H a := by
  cases x with
  | obj i =>
    simp only [Den] at rx
    obtain ⟨a, e1, q⟩ := rx
    simp only [dgetD] at e
    split at e
    · rename_i kvs hs
      obtain ⟨_, vs, hx, t⟩ := g.at_ i a _ q hs
      obtain ⟨k, h1, h2⟩ := Option.map_eq_some_iff.mp e
      obtain ⟨a1, _⟩ := ry.key h1
      subst a1; subst h2
      exact ⟨a, _, e1, .inl ⟨vs, k, .inl hx, rfl, rfl⟩, t.val k, .inl ⟨vs, .inl hx⟩⟩
    · rename_i kvs hs
      obtain ⟨_, od, vs, hx, t⟩ := g.at_ i a _ q hs
      obtain ⟨k, h1, h2⟩ := Option.map_eq_some_iff.mp e
      obtain ⟨a1, _⟩ := ry.key h1
      subst a1; subst h2
      exact ⟨a, _, e1, .inl ⟨vs, k, .inr ⟨od, hx.1⟩, rfl, rfl⟩, t.val k, .inl ⟨vs, .inr ⟨od, hx.1⟩⟩⟩
    · rename_i kvs hs
      obtain ⟨_, vs, hx, t⟩ := g.at_ i a _ q hs
      obtain ⟨k, h1, h2⟩ := Option.map_eq_some_iff.mp e
      obtain ⟨b, b1, b2, _⟩ := Den.tupAt g ry h1
      subst h2
      exact ⟨a, _, e1, .inr ⟨vs, k, b, .inl hx, b1, b2, rfl⟩, t.val k, .inr ⟨vs, .inl hx⟩⟩
    · rename_i kvs hs
      obtain ⟨_, od, vs, hx, t⟩ := g.at_ i a _ q hs
      obtain ⟨k, h1, h2⟩ := Option.map_eq_some_iff.mp e
      obtain ⟨b, b1, b2, _⟩ := Den.tupAt g ry h1
      subst h2
      exact ⟨a, _, e1, .inr ⟨vs, k, b, .inr ⟨od, hx.1⟩, b1, b2, rfl⟩, t.val k, .inr ⟨vs, .inr ⟨od, hx.1⟩⟩⟩
    · cases e
  | _ => simp [dgetD] at e
end
section
variable {J : Cn} {X : Cx} {W : WX} {a b c e e2 o tgt iter elt : Expr} {es ifs : List Expr} {fa fb fc fe fo fi fv fx : Ex} {fs : List Ex} {ft fu : Tx} {pos p p2 apos cpos tpos : Pos} {st : Stmt} {rest : List Stmt} {f1 f2 : Sx}
def eDnewK : Ex := fun _ s => .ok (.obj s.length) (s ++ [.dic []])
def eDnewT : Ex := fun _ s => .ok (.obj s.length) (s ++ [.dit []])
def dDget (x y : Dt) (s : Sto) : Out Dt := match dgetD s x y with
  | some (some d) => .ok d s
  | _ => .bad
theorem es_dget (hu : X.A.units + 1 < cLine) (ha : ES J X W a fa) (hb : ES J X W b fb) (hs : NoSl b := by exact fun _ _ => rfl) : ES J X W (.Subscript a b pos) (eOp dDget fa fb) :=
  PE.imp (pe_dget hu ha hb hs) fun σ H Q ⟨env, ρ, F, s, g, l, k⟩ => ⟨env, ρ, F, s, g, l, Po.bind k fun x s1 ρ1 F1 H1 v e1 l1 g1 r1 k1 => ⟨env, ρ1, F1, s1, g1, l.mono l1, Po.bind k1 fun y s2 ρ2 F2 H2 u e2 l2 g2 r2 k2 => by
    unfold dDget at k2
    split at k2
    · rename_i d hd
      obtain ⟨ad, r, h1, h2, h3, _⟩ := g2.dget (Den.mono l2 _ _ r1) r2 hd
      rcases h3 with ⟨h3, _⟩ | ⟨d', v', h3, h4, h5⟩
      · cases h3
      · cases h3
        subst h4
        exact ⟨ad, v', h1, h2, k2 ρ2 F2 H2 v' LE.refl g2 h5⟩
    · exact False.elim k2⟩⟩
theorem ROD.isSome {Γ : Wd} {ρ : List Addr} {F : Hp} {o : Option Dt} {r : Option V} (h : ROD Γ ρ F o r) : r.isSome = o.isSome := by
  rcases h with ⟨h1, h2⟩ | ⟨d, v, h1, h2, _⟩ <;> rw [h1, h2] <;> rfl
end
end Pd
namespace Pd
open PySem L2
section
variable {J : Cn} {X : Cx} {W : WX} {a b c e e2 o tgt iter elt : Expr} {es ifs : List Expr} {fa fb fc fe fo fi fv fx : Ex} {fs : List Ex} {ft fu : Tx} {pos p p2 apos cpos tpos : Pos} {st : Stmt} {rest : List Stmt} {f1 f2 : Sx}
/-! ### d[k] = v -/
def dputD (s : Sto) (x y v : Dt) : Option Sto := match x with
  | .obj i => match s[i]? with
    | some (.dic kvs) => (keyD y).bind fun k => if kvs.length < sizeLine then some (s.set i (.dic (putA kvs k v))) else none
    | some (.dit kvs) => (keysD y).bind fun k => if kvs.length < sizeLine then some (s.set i (.dit (putA kvs k v))) else none
    | _ => none
  | _ => none
def sDput (fo fi fv : Ex) : Sx := fun env => sBnd (fv env) env fun v => sBnd (fo env) env fun x => sBnd (fi env) env fun y s => match dputD s x y v with
  | some s' => .fl (.nx env) s'
  | none => .bad
/-! ### d.get(k), d.get(k, x) -/
def isDic (s : Sto) : Dt → Bool
  | .obj i => match s[i]? with
    | some (.dic _) => true
    | some (.dit _) => true
    | some (.dicL _) => true
    | some (.ditL _) => true
    | _ => false
  | _ => false
/-! ### d.pop(k), d.pop(k, x) -/
end
end Pd
namespace Pd
open PySem L2
/-! ### a dict is locked, and freed again -/
end Pd
namespace Pd
open PySem L2
/-! ### d.keys(), any keys, d locked -/
/-! ### the walk by meanings -/
def keyDt : Key → Dt
  | .inl i => .int i
  | .inr x => .str x
def keysDt (k : List Key) : Dt := .tup (k.map keyDt)
section
variable {Γ : Wd} {ρ : List Addr} {F H : Hp} {s : Sto}
theorem DenK.get {κ : Type} : ∀ {kvs : List (κ × Dt)} {vs : List (κ × V)} {i : Nat} {k : κ} {v : V}, DenK Γ ρ F kvs vs → vs[i]? = some (k, v) → ∃ d, kvs[i]? = some (k, d)
  | [], vs, i, k, v, h, e => by simp only [DenK] at h; subst h; simp at e
  | (f, d) :: r, vs, i, k, v, h, e => by
    obtain ⟨w, r', e1, q, t⟩ := h
    subst e1
    cases i with
    | zero => simp at e; exact ⟨d, by simp [e.1]⟩
    | succ i => simp at e; obtain ⟨d', h'⟩ := DenK.get t e; exact ⟨d', by simpa using h'⟩
end
/-- the keys of a locked dict -/
def iKeysL (f : Ex) : Is := fun env => bnd (f env) fun d s => match d with
  | .obj i => match s[i]? with
    | some (.dicL kvs) => .ok (kvs.map fun kv => keyDt kv.1, fun s' => s'[i]? = some (.dicL kvs)) s
    | some (.ditL kvs) => if kvs.all (fun kv => decide (kv.1.length ≤ 1000)) = true then .ok (kvs.map fun kv => keysDt kv.1, fun s' => s'[i]? = some (.ditL kvs)) s else .bad
    | _ => .bad
  | _ => .bad
end Pd
namespace Pd
open PySem L2
/-- an object comes to be the store's -/
theorem G.newAt {Γ : Wd} {ρ : List Addr} {F H : Hp} {s : Sto} (g : G Γ ρ F s H) {p : Addr} {o : HO} {mo : Mo} (hp : p ∉ ρ) (hf : F p = none) (hm : MoOk Γ (ρ ++ [p]) F (upd H p o) p mo) : G Γ (ρ ++ [p]) F (s ++ [mo]) (upd H p o) where
  sub := fun a u e => by
    rw [upd_ne (fun z => by rw [z, hf] at e; cases e)]; exact g.sub _ _ e
  len := by simp [g.len]
  nd := by
    refine List.nodup_append.mpr ⟨g.nd, by simp, fun a ha b hb => ?_⟩
    rw [List.mem_singleton] at hb
    rw [hb]
    exact fun z => hp (by rw [← z]; exact ha)
  sep := fun a h => by
    rcases List.mem_append.mp h with h | h
    · exact g.sep a h
    · rw [List.mem_singleton] at h; rw [h]; exact .inl hf
  at_ := fun i a m h1 h2 => by
    by_cases hi : i < ρ.length
    · rw [List.getElem?_append_left hi] at h1
      rw [List.getElem?_append_left (by rw [← g.len]; exact hi)] at h2
      exact (g.at_ i a m h1 h2).mono LD.push (upd_ne fun z => hp (by rw [← z]; exact List.mem_of_getElem? h1))
    · rw [List.getElem?_append_right (by omega)] at h1
      rw [List.getElem?_append_right (by rw [← g.len]; omega)] at h2
      have e0 : i - ρ.length = 0 := by
        have := (List.getElem?_eq_some_iff.mp h1).1
        simp at this
        omega
      rw [e0] at h1
      rw [← g.len, e0] at h2
      have e1 : p = a := Option.some.inj h1
      have e2 : mo = m := Option.some.inj h2
      subst e1; subst e2
      exact hm
theorem LE.newAt {ρ ρ1 : List Addr} {F F1 H H1 : Hp} {p : Addr} {o : HO} (l : LE ρ F H ρ1 F1 H1) (hp : H p = none) : LE ρ F H (ρ1 ++ [p]) F1 (upd H1 p o) where
  ld := l.ld.trans LD.push
  fr := fun a h => by
    rcases List.mem_append.mp h with h | h
    · exact l.fr a h
    · rw [List.mem_singleton] at h; rw [h]; exact .inr hp
  ff := l.ff
  keep := fun a u h n => by rw [upd_ne (ne_of_none h hp)]; exact l.keep a u h n
  there := fun a u h => by rw [upd_ne (ne_of_none h hp)]; exact l.there a u h
theorem nodup_inr {α β : Type} : ∀ {l : List β}, l.Nodup → (l.map (Sum.inr : β → α ⊕ β)).Nodup
  | [], _ => List.nodup_nil
  | x :: l, h => by
    rw [List.nodup_cons] at h
    rw [List.map_cons, List.nodup_cons]
    refine ⟨fun z => ?_, nodup_inr h.2⟩
    obtain ⟨y, hy, e⟩ := List.mem_map.mp z
    cases e
    exact h.1 hy
section
variable {J : Cn} {X : Cx} {W : WX} {a b c e e2 : Expr} {es : List Expr} {fa fb fc fe : Ex} {fs : List Ex} {pos p p2 : Pos}
/-! ### str(n) -/
/-! ### list(range(a, b)) -/
/-! ### {"k": v, ..} -/
def trsOf (Γ : Wd) (W : WX) : List Str → List Ex → List (TE × TE)
  | k :: ks, f :: fs => (tC (.str k), tE Γ W f) :: trsOf Γ W ks fs
  | _, _ => []
theorem dps_nil : PPs X pos [] [] (trsOf (wd J X) W [] []) := pps_nil
theorem dps_cons {k : Str} {ks : List Str} {kes : List (Option Expr)} {j} {kp : Pos} (hv : ES J X W e fe) (hr : PPs X pos kes es (trsOf (wd J X) W ks fs)) :
    PPs X pos (some (.Constant (.str k) j kp) :: kes) (e :: es) (trsOf (wd J X) W (k :: ks) (fe :: fs)) := pps_cons pe_str hv hr
theorem tPairs_mono {Γ : Wd} {W : WX} {σ : St} : ∀ {ks : List Str} {fs : List Ex} {H : Hp} {Q Q' : List (V × V) → Hp → Prop}, tPairs (trsOf Γ W ks fs) σ H Q → (∀ ps H', Q ps H' → Q' ps H') → tPairs (trsOf Γ W ks fs) σ H Q'
  | [], [], H, Q, Q', h, k => k _ _ h
  | [], _ :: _, H, Q, Q', h, k => k _ _ h
  | _ :: _, [], H, Q, Q', h, k => k _ _ h
  | z :: ks, f :: fs, H, Q, Q', ⟨env, ρ, F, s, g, l, h⟩, k => ⟨env, ρ, F, s, g, l, h.mono LE.refl (fun v H1 q => tPairs_mono q fun ps H' q => k _ _ q) fun _ _ q => q⟩
theorem pairs_of {Γ : Wd} {W : WX} {σ : St} {env : En} {Q : List V → Hp → Prop} : ∀ {ks : List Str} {fs : List Ex} {ρ : List Addr} {F H : Hp} {s : Sto}, ks.length = fs.length → G Γ ρ F s H → Sl Γ ρ F env σ → APo Γ ρ F H Q (fun c H' => W c none σ H') (evs fs env s) →
    tPairs (trsOf Γ W ks fs) σ H fun ps H' => ∃ xs, ps = (ks.map V.str).zip xs ∧ Q xs H'
  | [], [], ρ, F, H, s, _, g, l, k => ⟨[], rfl, k ρ F H [] LE.refl g (by simp only [Dens])⟩
  | [], _ :: _, _, _, _, _, h, _, _, _ => by simp at h
  | _ :: _, [], _, _, _, _, h, _, _, _ => by simp at h
  | z :: ks, f :: fs, ρ, F, H, s, h, g, l, k => by
    refine ⟨env, ρ, F, s, g, l, Po.bind k fun x s1 ρ1 F1 H1 v e1 l1 g1 r1 k1 => ?_⟩
    have := pairs_of (W := W) (ks := ks) (fs := fs) (Q := fun xs H' => Q (v :: xs) H') (by simpa using h) g1 (l.mono l1) (Po.bind k1 fun ds s2 ρ2 F2 H2 us e2 l2 g2 r2 k2 => ?_)
    · refine tPairs_mono this fun ps H' ⟨xs, e, q⟩ => ⟨v :: xs, by rw [e]; rfl, q⟩
    · exact k2 ρ2 F2 H2 (v :: us) LE.refl g2 (by simp only [Dens]; exact ⟨v, us, rfl, Den.mono l2 _ _ r1, r2⟩)
theorem denK_zip {Γ : Wd} {ρ : List Addr} {F : Hp} : ∀ {ks : List Key} {ds : List Dt} {xs : List V}, Dens Γ ρ F ds xs → DenK Γ ρ F (ks.zip ds) (ks.zip xs)
  | [], ds, xs, _ => by simp [DenK]
  | k :: ks, [], xs, h => by simp only [Dens] at h; subst h; simp [DenK]
  | k :: ks, d :: ds, xs, h => by
    simp only [Dens] at h
    obtain ⟨v, r, e, q, t⟩ := h
    subst e
    exact ⟨v, _, rfl, q, denK_zip t⟩
theorem merge_new : ∀ {more acc : List (Key × V)}, ((acc ++ more).map (·.1)).Nodup → mergeK acc more = acc ++ more
  | [], acc, _ => by simp [mergeK]
  | kv :: more, acc, h => by
    have h1 : valV acc kv.1 = none := by
      unfold valV
      rw [Option.map_eq_none_iff, List.find?_eq_none]
      intro x hx hd
      have hd := of_decide_eq_true hd
      rw [List.map_append, List.map_cons] at h
      exact (List.nodup_append.mp h).2.2 x.1 (List.mem_map.mpr ⟨x, hx, rfl⟩) kv.1 (List.mem_cons_self) hd
    have h2 : putK acc kv.1 kv.2 = acc ++ [kv] := putK_new kv.2 h1
    show mergeK (putK acc kv.1 kv.2) more = _
    rw [h2, merge_new (by rw [List.append_assoc]; exact h), List.append_assoc]
    rfl
theorem zip_kV : ∀ (ks : List Str) (xs : List V), (ks.map V.str).zip xs = (((ks.map Sum.inr : List Key).zip xs).map fun kv => (kV kv.1, kv.2))
  | [], xs => rfl
  | z :: ks, [] => rfl
  | z :: ks, x :: xs => by simp only [List.map_cons, List.zip_cons_cons, zip_kV ks xs]; rfl
def eDisp (ks : List Str) (fs : List Ex) : Ex := fun env => bnd (evs fs env) fun ds s => .ok (.obj s.length) (s ++ [.dic ((ks.map Sum.inr).zip ds)])
theorem es_disp {ks : List Str} {kes : List (Option Expr)} (h : PPs X pos kes es (trsOf (wd J X) W ks fs)) (hk : (ks.all sok && decide ks.Nodup && decide (ks.length = fs.length) && decide (ks.length ≤ 15)) = true := by decide +kernel)
    (hall : kes.all (·.isSome) = true := by rfl) (hl : kes.length = es.length := by rfl) (h0 : kes ≠ [] := by simp) (h15 : kes.length ≤ 15 := by decide) : ES J X W (.Dict kes es pos) (eDisp ks fs) :=
  PE.imp (pe_disp h hall hl h0 h15) fun σ H Q ⟨env, ρ, F, s, g, l, k⟩ p hp => by
    simp only [Bool.and_eq_true, decide_eq_true_eq] at hk
    obtain ⟨⟨⟨k1, k2⟩, k3⟩, k4⟩ := hk
    have g0 := g.skip (.dK []) hp
    have l0 : LE ρ F H ρ F (upd H p (.dK [])) := LE.skip hp
    have np : p ∉ ρ := fun z => g.new_ne hp z rfl
    have fin : APo (wd J X) ρ F (upd H p (.dK [])) (fun xs H2 => H2 p = some (.dK []) ∧ ks.length = xs.length ∧ Q (.ref p) (upd H2 p (.dK ((ks.map Sum.inr).zip xs)))) (fun c H' => W c none σ H') (evs fs env s) := by
      unfold eDisp bnd at k
      cases e : evs fs env s with
      | ok ds s1 =>
        rw [e] at k
        intro ρ1 F1 H1 xs l1 g1 r1
        have hp1 : H1 p = some (.dK []) := l1.keep _ _ upd_same np
        have np1 : p ∉ ρ1 := fun z => by
          rcases l1.fr p z with z | z
          · exact np z
          · rw [upd_same] at z; cases z
        have hF1 : F1 p = none := by
          cases e : F1 p with
          | none => rfl
          | some o =>
            rcases l1.ff p o e with ⟨u, z⟩ | z | ⟨_, xs, z⟩
            · rw [g.fnone hp] at z; cases z
            · rw [upd_same] at z; cases z
            · rw [upd_same] at z; cases z
        have hlen : ds.length = fs.length := evs_len e
        refine ⟨hp1, by rw [k3, ← hlen, r1.length], k (ρ1 ++ [p]) F1 _ (.ref p) (LE.newAt (l0.trans l1) hp) (g1.newAt np1 hF1 ?_) ?_⟩
        · refine ⟨⟨?_, fun kv hkv => ?_⟩, _, upd_same, DenK.monoD LD.push (denK_zip r1)⟩
          · rw [List.length_zip, List.length_map, sizeLine_eq]; omega
          · obtain ⟨kk, dd⟩ := kv
            have := (List.of_mem_zip hkv).1
            obtain ⟨z, hz, e⟩ := List.mem_map.mp this
            subst e
            exact List.all_eq_true.mp k1 z hz
        · simp only [Den]
          exact ⟨p, rfl, by rw [← g1.len]; simp⟩
      | exc c s1 =>
        rw [e] at k
        exact fun ρ1 F1 H1 C l1 g1 r1 => k ρ1 F1 H1 C (l0.trans l1) g1 r1
      | bad => rw [e] at k; exact k
    refine tPairs_mono (pairs_of k3 g0 (l.mono l0) fin) fun ps H2 ⟨xs, e, q1, ql, q2⟩ => ⟨q1, (ks.map Sum.inr).zip xs, ?_, ?_, ?_⟩
    · rw [e]
      exact zip_kV ks xs
    · rw [List.length_zip, List.length_map]; omega
    · rw [merge_new]
      · exact q2
      · rw [List.nil_append, List.map_fst_zip (by rw [List.length_map]; omega)]
        exact nodup_inr k2
end
end Pd
namespace Pd
open PySem L2
section
variable {J : Cn} {X : Cx} {W : WX} {a b c e e2 : Expr} {es : List Expr} {fa fb fc fe : Ex} {fs : List Ex} {pos p p2 : Pos}
/-! ### text * n, tuple * n -/
def repS (x : Str) (n : Nat) : Str := ⟨(List.replicate n x.cps).foldl (· ++ ·) #[]⟩
theorem foldl_app : ∀ (l : List (Array Nat)) (b : Array Nat), (l.foldl (· ++ ·) b).toList = b.toList ++ (l.map (·.toList)).flatten
  | [], b => by simp
  | a :: l, b => by
    rw [List.foldl_cons, foldl_app l, List.map_cons, List.flatten_cons, Array.toList_append, List.append_assoc]
theorem repS_codes (x : Str) (n : Nat) : (repS x n).cps.toList = (List.replicate n x.cps.toList).flatten := by
  unfold repS
  rw [foldl_app, List.map_replicate]
  rfl
theorem repS_len (x : Str) (n : Nat) : (repS x n).length = n * x.length := by
  have h1 : (repS x n).length = (repS x n).cps.toList.length := by rw [Array.length_toList]; rfl
  have h2 : x.length = x.cps.toList.length := by rw [Array.length_toList]; rfl
  rw [h1, repS_codes, List.length_flatten, List.map_replicate, List.sum_replicate_nat, h2]
theorem op_repS : OpR X (binaryOp .Mult) (fun x y H Q => ∃ z k, x = .str z ∧ y = .int k ∧ 2 ≤ k ∧ 0 < z.length ∧ z.length * k.toNat ≤ 1000000 ∧ Q (.str (repS z k.toNat)) H) := by
  intro pins s σ H x y v u Q I rx ry h
  obtain ⟨z, k, rfl, rfl, h1, h2, h3, q⟩ := h
  obtain ⟨t1, rfl⟩ := rx
  obtain ⟨t2, rfl⟩ := ry
  have hk : k ≤ 1000000 := by
    have : 1 * k.toNat ≤ z.length * k.toNat := Nat.mul_le_mul_right _ h2
    omega
  have n1 : ¬ k < 1 := by omega
  have n2 : (k == 1 || z.length == 0) = false := by
    have a1 : (k == 1) = false := by simpa using (by omega : ¬ k = 1)
    have a2 : (z.length == 0) = false := by simpa using (by omega : ¬ z.length = 0)
    rw [a1, a2]; rfl
  refine P.mul_str (by
    rw [decide_eq_false (by omega), decide_eq_false (by omega)]; rfl) (fun _ _ hh => ?_) (fun _ _ => ?_) ?_
  · have : z.length ≤ 1000000 := by
      have : z.length * 1 ≤ z.length * k.toNat := Nat.mul_le_mul_left _ (by omega)
      omega
    have h5 : (1000000 : Int) ≤ (2 ^ 63 - 1) / k := by
      rw [Int.le_ediv_iff_mul_le (by omega)]
      omega
    omega
  · show Builtin.Str.tooLong _ = false
    unfold Builtin.Str.tooLong
    rw [sizeLine_eq]
    simp
    omega
  · rw [if_neg n1, if_neg (by rw [n2]; exact Bool.false_ne_true)]
    refine ⟨?_, .str _, H, I.tok _, ⟨_, rfl⟩, q⟩
    show (repS z k.toNat).length ≤ sizeLine
    rw [repS_len, sizeLine_eq, Nat.mul_comm]
    omega
def dRepS (x y : Dt) (s : Sto) : Out Dt := match x with
  | .str z => match y with
    | .int k => if decide (2 ≤ k ∧ 0 < z.length ∧ z.length * k.toNat ≤ 1000000) = true then .ok (.str (repS z k.toNat)) s else .bad
    | _ => .bad
  | _ => .bad
theorem es_repS (ha : ES J X W a fa) (hb : ES J X W b fb) : ES J X W (.BinOp a .Mult b pos) (eOp dRepS fa fb) :=
  es_op op_repS (fun ρ F s H x y dx dy Q E g rx ry k => by
    cases dx with
    | str z =>
      cases dy with
      | int m =>
        simp only [Den] at rx ry
        simp only [dRepS] at k
        split at k
        · rename_i hz
          have hz := of_decide_eq_true hz
          refine ⟨z, m, rx.1, ry, hz.1, hz.2.1, hz.2.2, k ρ F H _ LE.refl g ?_⟩
          simp only [Den]
          refine ⟨trivial, sok_of (fun c hc => ?_) (by rw [repS_len, Nat.mul_comm]; exact hz.2.2)⟩
          rw [repS_codes, List.mem_flatten] at hc
          obtain ⟨l, hl, hc⟩ := hc
          rw [(List.mem_replicate.mp hl).2] at hc
          exact sok_mem rx.2 hc
        · exact False.elim k
      | _ => exact False.elim k
    | _ => exact False.elim k) ha hb
def dRepT (x y : Dt) (s : Sto) : Out Dt := match x with
  | .tup l => match y with
    | .int k => if decide (2 ≤ k ∧ k ≤ 1000 ∧ 0 < l.length ∧ l.length ≤ 1000) = true then .ok (.tup (List.replicate k.toNat l).flatten) s else .bad
    | _ => .bad
  | _ => .bad
theorem es_repT (ha : ES J X W a fa) (hb : ES J X W b fb) : ES J X W (.BinOp a .Mult b pos) (eOp dRepT fa fb) :=
  es_op op_repT (fun ρ F s H x y dx dy Q E g rx ry k => by
    cases dx with
    | tup l =>
      cases dy with
      | int m =>
        have ry' := ry
        simp only [Den] at ry'
        simp only [dRepT] at k
        split at k
        · rename_i hz
          have hz := of_decide_eq_true hz
          obtain ⟨a, xs, e, q, t, z⟩ := g.sqT rx (l := l) rfl
          have hl := t.length
          have hlen : (List.replicate m.toNat l).flatten.length ≤ sizeLine := by
            rw [List.length_flatten, List.map_replicate, List.sum_replicate_nat, sizeLine_eq]
            have : m.toNat * l.length ≤ 1000 * 1000 := Nat.mul_le_mul (by omega) hz.2.2.2
            omega
          refine ⟨a, m, xs, e, ry', q, fun z => ?_, hz.1, hz.2.1, by omega, fun p hp => new_tup g (t.rep m.toNat) hlen hp k⟩
          rw [z] at hl
          simp at hl
          rw [hl] at hz
          simp at hz
        · exact False.elim k
      | _ => exact False.elim k
    | _ => exact False.elim k) ha hb
/-! ### a list unpacked -/
end
end Pd
/-! The order of ints, texts and tuples of them; sorting. -/
namespace Pd
open PySem L2
/-! sorting by keys -/
/-! what may be sorted -/
end Pd
/-! sorted(..) in the model, of ints, texts and tuples of them. -/
namespace Pd
open PySem L2 SrtO PyProof.Rows Srt
end Pd
namespace Pd
open PySem L2 SrtO
open PyProof.Rows (kind_sorted plain_sorted entry_sorted args_sorted1 slot_list_sort entry_list_sort args_list_sort sortedHeap_at sortedHeap_old collect_list size_push' seqObj)
end Pd
namespace Pd
open PySem L2
/-! ### sorted, by meanings -/
end Pd
namespace Pd
open PySem L2
/-! ### sets of texts, made of a list -/
end Pd
/-! Lists and dicts of the module; clauses of except that end otherwise. -/
namespace Pd
open PySem L2
/-! ### a list of the module -/
def txtV : Value → Option Str
  | .str x _ => some x
  | _ => none
/-- a list of texts of the module -/
structure KLst (K : PySem.W.Frag) (a : Addr) (xs : List Str) : Prop where
  at_ : ∃ (its : Array Value) (n : Nat), K.lookup a = some ⟨.type "list", none, .seq its n, #[]⟩ ∧ its.toList.map txtV = xs.map some
theorem vals_txt : ∀ {xs : List Str} {us : List Value}, us.map txtV = xs.map some → Vals (xs.map V.str) us
  | [], [], _ => .nil
  | x :: xs, u :: us, h => by
    rw [List.map_cons, List.map_cons] at h
    injection h with h1 h2
    refine .cons ?_ (vals_txt h2)
    cases u <;> simp only [txtV] at h1 <;> try cases h1
    exact ⟨_, rfl⟩
  | [], _ :: _, h => by cases h
  | _ :: _, [], h => by cases h
theorem dens_txt {Γ : Wd} {ρ : List Addr} {F : Hp} : ∀ {xs : List Str}, xs.all sok = true → Dens Γ ρ F (xs.map Dt.str) (xs.map V.str)
  | [], _ => by simp [Dens]
  | x :: xs, h => by
    rw [List.all_cons, Bool.and_eq_true] at h
    show Dens Γ ρ F (Dt.str x :: xs.map Dt.str) (V.str x :: xs.map V.str)
    simp only [Dens]
    exact ⟨_, _, rfl, by simp only [Den]; exact ⟨trivial, h.1⟩, dens_txt h.2⟩
section
variable {J : Cn} {X : Cx} {W : WX} {pos p1 p2 : Pos}
theorem es_glst {x : Str} {a : Addr} {xs : List Str} (hg : Gl X x) (hm : X.mg x = some (.ref a)) (k : KLst X.K a xs) (hs : xs.all sok = true := by decide +kernel) (hl : xs.length ≤ 1000 := by decide +kernel) (hd : (x == ("__debug__" : Str)) = false := by decide) : ES J X W (.Name x pos) (eC (.lsk (xs.map Dt.str))) := by
  refine es_c (v := .ref a) (pe_glob hg hm rfl hd) fun ρ F => ?_
  obtain ⟨its, n, h1, h2⟩ := k.at_
  simp only [Den]
  have hz : xs.length ≤ sizeLine := by rw [sizeLine_eq]; omega
  refine ⟨by rw [List.length_map]; exact hz, a, xs.map V.str, rfl, .inr ⟨_, its, n, h1, rfl, rfl, rfl, ?_, vals_txt h2⟩, dens_txt hs⟩
  have := congrArg List.length h2
  rw [List.length_map, List.length_map, Array.length_toList] at this
  omega
/-- two lists of the module, put together -/
theorem es_gcat {x y : Str} {a b : Addr} {xs ys : List Str} (hg : Gl X x) (hm : X.mg x = some (.ref a)) (k : KLst X.K a xs) (hg2 : Gl X y) (hm2 : X.mg y = some (.ref b)) (k2 : KLst X.K b ys) (hs : (xs ++ ys).all sok = true := by decide +kernel) (hl : xs.length + ys.length ≤ 1000 := by decide +kernel)
    (hd : (x == ("__debug__" : Str)) = false := by decide) (hd2 : (y == ("__debug__" : Str)) = false := by decide) : ES J X W (.BinOp (.Name x p1) .Add (.Name y p2) pos) (eC (.lst ((xs ++ ys).map Dt.str))) := by
  obtain ⟨its, n, h1, h2⟩ := k.at_
  obtain ⟨its2, n2, h3, h4⟩ := k2.at_
  have hz : xs.length + ys.length ≤ sizeLine := by rw [sizeLine_eq]; omega
  have e1 : its.size = xs.length := by
    have := congrArg List.length h2
    rw [List.length_map, List.length_map, Array.length_toList] at this
    exact this
  have e2 : its2.size = ys.length := by
    have := congrArg List.length h4
    rw [List.length_map, List.length_map, Array.length_toList] at this
    exact this
  have hr : OpR X (binaryOp .Add) (fun x y H Q => x = .ref a ∧ y = .ref b ∧ ∀ p, H p = none → Q (.ref p) (upd H p (.lst (xs.map V.str ++ ys.map V.str)))) := by
    intro pins s σ H x y v u Q I rx ry h
    obtain ⟨rfl, rfl, q⟩ := h
    cases rx
    cases ry
    refine PySem.P.add_list (items := its) (n := n) (items2 := its2) (n2 := n2) (I.kIn _ _ h1) (I.kIn _ _ h3) ?_ (by omega)
    have ea : its ++ its2 = (its.toList ++ its2.toList).toArray := by simp
    rw [ea]
    have r1 := (vals_txt h2).append (vals_txt h4)
    exact ⟨.ref _, _, I.lnew (t' := s.toks) r1 (by rw [List.length_append, List.length_map, List.length_map]; omega), rfl, q _ I.fresh⟩
  refine PE.imp (pe_op hr (pe_glob (v := .ref a) hg hm rfl hd) (pe_glob (v := .ref b) hg2 hm2 rfl hd2)) fun σ H Q ⟨env, ρ, F, s, g, l, k⟩ => ⟨rfl, rfl, fun p hp => ?_⟩
  have t : Dens (wd J X) ρ F ((xs ++ ys).map Dt.str) (xs.map V.str ++ ys.map V.str) := by rw [← List.map_append]; exact dens_txt hs
  exact new_lst (nw := nwF) (.inl rfl) g t (by rw [List.length_map, List.length_append]; exact hz) hp k
end
/-! ### NAME.get(k, x) of a dict of the module: texts and whole numbers -/
def intV : Value → Option Int
  | .int i _ => some i
  | _ => none
structure KTab (K : PySem.W.Frag) (w : World) (a : Addr) (tb : List (Str × Int)) : Prop where
  at_ : ∃ (es : Array DictEntry) (n : Nat), K.lookup a = some ⟨.type "dict", none, .dict es n, #[]⟩ ∧ (a == sysModules) = false ∧ es.toList.map He.keyOf = He.keysIn w.params (tb.map (·.1)) ∧ es.toList.map (fun e => intV e.val) = tb.map fun x => some x.2
theorem ktab_find {P : Params} : ∀ {es : List DictEntry} {tb : List (Str × Int)} (x : Str), es.map He.keyOf = He.keysIn P (tb.map (·.1)) → es.map (fun e => intV e.val) = (tb.map fun x => some x.2) →
    ((es.find? fun e => Value.isStrOf x e.key).map (·.val) = none ∧ tb.lookup x = none) ∨ ∃ i t, (es.find? fun e => Value.isStrOf x e.key).map (·.val) = some (.int i t) ∧ tb.lookup x = some i
  | [], [], x, _, _ => .inl ⟨rfl, rfl⟩
  | e :: es, (k, i) :: tb, x, h1, h2 => by
    have h1 : He.keyOf e :: es.map He.keyOf = some (k, PyData.keyHash P k) :: He.keysIn P (tb.map (·.1)) := h1
    have h2 : intV e.val :: es.map (fun e => intV e.val) = some i :: tb.map fun x => some x.2 := h2
    injection h1 with a1 a2
    injection h2 with b1 b2
    have ih := ktab_find x a2 b2
    obtain ⟨t, ek⟩ : ∃ t, e.key = .str k t := by
      unfold He.keyOf at a1
      split at a1
      · rename_i y t q
        have a3 := (Prod.mk.inj (Option.some.inj a1)).1
        exact ⟨t, by rw [q, a3]⟩
      · cases a1
    obtain ⟨t2, ev⟩ : ∃ t, e.val = .int i t := by
      cases hv : e.val <;> rw [hv] at b1 <;> simp only [intV] at b1 <;> try cases b1
      exact ⟨_, rfl⟩
    by_cases hx : x = k
    · subst hx
      refine .inr ⟨i, t2, ?_, by simp [List.lookup]⟩
      rw [List.find?_cons_of_pos (by rw [ek]; simp [Value.isStrOf])]
      simp [ev]
    · have n1 : ¬ Value.isStrOf x e.key = true := by
        rw [ek]
        simp only [Value.isStrOf, beq_iff_eq]
        first
        | exact hx
        | exact fun z => hx z.symm
      have n3 : (e :: es).find? (fun e => Value.isStrOf x e.key) = es.find? fun e => Value.isStrOf x e.key := List.find?_cons_of_neg n1
      rw [n3]
      have n2 : ((k, i) :: tb).lookup x = tb.lookup x := by
        have : (x == k) = false := by simpa using hx
        simp [List.lookup, this]
      rw [n2]
      exact ih
  | [], _ :: _, x, h, _ => by cases h
  | _ :: _, [], x, h, _ => by cases h
def eKget2 (tb : List (Str × Int)) (fe fx : Ex) : Ex := fun env => bnd (fe env) fun y => bnd (fx env) fun z s => match y with
  | .str x => .ok (((tb.lookup x).map Dt.int).getD z) s
  | _ => .bad
def tKget (tb : List (Str × Int)) (ty tx : TE) : TE := fun σ H Q => ty σ H fun y H2 => tx σ H2 fun z H3 => ∃ x, y = .str x ∧ Q (((tb.lookup x).map V.int).getD z) H3
section
variable {J : Cn} {X : Cx} {W : WX} {e e2 : Expr} {fe fx : Ex} {ty tx : TE} {pos p1 apos cpos : Pos}
theorem pe_kget2 {n : Str} {a : Addr} {tb : List (Str × Int)} (hg : Gl X n) (hm : X.mg n = some (.ref a)) (k : KTab X.K X.w a tb) (he : PE X e ty) (hx : PE X e2 tx) (m : M2 X (.Name n p1) "get" apos e e2 cpos) (hd : (n == ("__debug__" : Str)) = false) :
    PE X (.Call (.Attribute (.Name n p1) "get" apos) [e, e2] [] cpos) (tKget tb ty tx) := by
  obtain ⟨es, nn, h1, h2, h3, h4⟩ := k.at_
  refine ⟨fun pins s σ H Q I h => ?_⟩
  have ho : PE X (.Name n p1) (tC (.ref a)) := pe_glob hg hm rfl hd
  refine wpAny_Call_method m.base m.few m.line PySem.F.plainAttrs_dict PySem.F.slot_dict_get PySem.F.type_dict_get (thn (ho.run pins s σ H (fun v H' => v = .ref a ∧ H' = H) I ⟨rfl, rfl⟩) fun u s1 ⟨x, H1, I1, rx, ex, eh⟩ => ?_)
  subst ex
  subst eh
  obtain rfl : u = Value.ref a := rx
  have gd := I1.kIn a _ h1
  refine ⟨⟨_, gd, rfl⟩, ?_, ?_⟩
  · first
    | exact fun _ => ⟨_, gd, rfl⟩
    | exact ⟨_, gd, rfl⟩
    | exact fun b q => by cases q; exact ⟨_, gd, rfl⟩
  rw [m.trees]
  refine Calls.callWith_builtin rfl (Calls.evalArgs_plain (Calls.spliced_cons (thn (he.run pins s1 σ H1 _ I1 h) fun iv s2 ⟨y, H2, I2, ry, q2⟩ =>
    Calls.spliced_cons (thn (hx.run pins s2 σ H2 _ I2 q2) fun fv s3 ⟨z, H3, I3, rz, x, ey, q3⟩ => Calls.spliced_nil ?_))))
  subst ey
  obtain ⟨t, rfl⟩ := (show ∃ t, iv = Value.str x t from ry)
  have hmap : s3.heap.MapOf (strKind X.prog X.w) a (fun k => findBy Value.isStrOf es k) := PySem.W.mapOf_K I3.kIn h1 (He.keysLit_of h3)
  refine call_meetsIn PySem.F.slot_dict_get hmap.typeIs PySem.F.entry_dict_get (PySem.F.args_dict_get_3 _ _ _) (meets_dict_get_default (strKind X.prog X.w) a (strKind_is X.prog X.w x t) h2 fv) ⟨_, hmap, ?_⟩
  have ef : findBy Value.isStrOf es x = (es.toList.find? fun e => Value.isStrOf x e.key).map (·.val) := by
    unfold findBy
    rw [← Array.find?_toList]
  refine ⟨_, H3, I3.tok _, ?_, q3⟩
  rw [ef]
  rcases ktab_find x h3 h4 with ⟨c1, c2⟩ | ⟨i, t2, c1, c2⟩
  · rw [c1, c2]; exact rz
  · rw [c1, c2]; exact ⟨t2, rfl⟩
theorem es_kget2 {n : Str} {a : Addr} {tb : List (Str × Int)} (hg : Gl X n) (hm : X.mg n = some (.ref a)) (k : KTab X.K X.w a tb) (he : ES J X W e fe) (hx : ES J X W e2 fx) (m : M2 X (.Name n p1) "get" apos e e2 cpos := by exact ⟨rfl, rfl, rfl, rfl⟩) (hd : (n == ("__debug__" : Str)) = false := by decide) :
    ES J X W (.Call (.Attribute (.Name n p1) "get" apos) [e, e2] [] cpos) (eKget2 tb fe fx) :=
  PE.imp (pe_kget2 hg hm k he hx m hd) fun σ H Q ⟨env, ρ, F, s, g, l, k⟩ => ⟨env, ρ, F, s, g, l, Po.bind k fun y s1 ρ1 F1 H1 v e1 l1 g1 r1 k1 => ⟨env, ρ1, F1, s1, g1, l.mono l1, Po.bind k1 fun z s2 ρ2 F2 H2 u e2 l2 g2 r2 k2 => by
    cases y with
    | str x =>
      simp only [Den] at r1
      refine ⟨x, r1.1, ?_⟩
      refine k2 ρ2 F2 H2 _ LE.refl g2 ?_
      cases hq : tb.lookup x with
      | none => exact r2
      | some i => simp only [Option.map_some, Option.getD_some, Den]
    | _ => exact False.elim k2⟩⟩
end
/-! ### return without a value -/
/-! ### try: .. except C: raise E(..) from None -/
/-- errors of these classes are not taken by the clause of cv -/
def XnF (J : Cn) (K : PySem.W.Frag) (mg : Str → Option Value) (tb : List Nat) (cv : Value) : Prop := ∀ n, n ∈ tb → ∀ C, mg (J n).1 = some (.ref C) → PySem.W.exmOne K (.ref C) cv = some false
theorem xn_nil {J : Cn} {K : PySem.W.Frag} {mg : Str → Option Value} {cv : Value} : XnF J K mg [] cv := fun n h => nomatch h
theorem xn_cons {J : Cn} {K : PySem.W.Frag} {mg : Str → Option Value} {cv : Value} {n : Nat} {tb : List Nat} {C : Addr} (hC : mg (J n).1 = some (.ref C)) (hk : PySem.W.exmOne K (.ref C) cv = some false) (hr : XnF J K mg tb cv) : XnF J K mg (n :: tb) cv := fun m h C' hC' => by
  rcases List.mem_cons.mp h with e | h
  · subst e
    have z := hC.symm.trans hC'
    cases z
    exact hk
  · exact hr m h C' hC'
def sTryR (tb tn : List Nat) (c : Nat) (fb : Sx) : Sx := fun env s => match fb env s with
  | .exc c' env' s' => if c' ∈ tb then .exc c env' s' else if c' ∈ tn then .exc c' env' s' else .bad
  | r => r
section
variable {J : Cn} {X : Cx} {W : WX} {pos : Pos}
theorem pmk5_own {x m : Str} {j : Nat} {C : Addr} {bmB : List Value} {B newId initId : String} {p p2 pos : Pos} (F : ExcBaseFacts B newId initId bmB) (q : PySem.W.excIn X.K C bmB newId = true) (gC : X.mg x = some (.ref C)) (kC : PySem.W.keepIn X.K (.ref C) = true) (r : Raises X (.ref C)) (hg : Gl X x)
    (hdb : (x == ("__debug__" : Str)) = false := by decide) : L2H.PMk5 X (.Call (.Name x p) [.Constant (.str m) j p2] [] pos) (fun _ H Q => Q (.ref C) none H) := by
  intro pins s σ H Q I h
  refine wpAny_Call_Name_kw (ld_glob I hg gC ?_ hdb)
  have ha : PA X [.Constant (.str m) j p2] (tCons (tC (.str m)) tNil) := pa_cons pe_str pa_nil
  refine PySem.W.callWith_K (h₀ := X.base) I.ok.mod.kin kC (thn (ha.run pos pins s σ H (fun vs H1 => vs = [V.str m] ∧ H = H1) I ⟨rfl, rfl⟩) fun us s1 hh => ?_)
  obtain ⟨vs, H1, I1, r1, ev, eH⟩ := hh
  subst ev
  rw [← eH] at I1
  refine ⟨I1.kIn, ?_⟩
  cases r1 with
  | cons ru rn =>
    rename_i u us'
    cases rn
    show wpAny _ _ (call (.ref C) [u]) _ _ _
    obtain ⟨bm, N, nm, qn, bs, hdct, sn, sub, ab, col, dd, k0, k1, k2, k3, k5, mN, hC, hN, hni, T⟩ := exc_obj I1.kIn q
    refine wpAny_call_exc_subT F T hC hN hni (fun h' e hm => ?_) (by show 1 ≤ sizeLine; rw [sizeLine_eq]; omega)
    exact L2H.mk_of5 I1 hm r h (I1.hok.gone hm.new)
theorem ss_try_raise {x y m : Str} {cv : Value} {c : Nat} {C : Addr} {tb tn : List Nat} {bmB : List Value} {B newId initId : String} {body : List Stmt} {j j2 : Nat} {np pos' p p2 p3 p4 p5 : Pos} {fb : Sx} (hs : X.stack = X.env :: X.outer) (hf : X.env.frame = some X.env.locals) (hc : Names X x cv) (hpa : ∀ hd : Option Value, PassesOwnAt (model X.prog X.w) (X.A.mark hd) X.A X.env X.xe) (tk : Tks false X W)
    (hm : XmF J X.K X.mg tb cv) (hn : XnF J X.K X.mg tn cv)
    (hb : ∀ (W : WX) (pn : List (Addr × Obj)) (xe : Value → Shared → Prop), Tks true (X.tr pn xe) W → PassesOwn (model X.prog X.w) X.A X.env xe → SSs J (X.tr pn xe) W body fb)
    (hJ : (J c).1 = y) (Fx : ExcBaseFacts B newId initId bmB) (q : PySem.W.excIn X.K C bmB newId = true) (gC : X.mg y = some (.ref C)) (kC : PySem.W.keepIn X.K (.ref C) = true) (r : Raises X (.ref C)) (hg : Gl X y) (hdb : (y == ("__debug__" : Str)) = false := by decide) :
    SS J X W (.Try body [.ExceptHandler (some (.Name x np)) none [.Raise (some (.Call (.Name y p) [.Constant (.str m) j p2] [] p3)) (some (.Constant .none j2 p4)) p5] pos'] [] [] pos) (sTryR tb tn c fb) := by
  refine PS.imp (L2H.ps_try_onlyX (tb := fun W => tS (wd J X) W fb) (ts := fun a cls d _ σ H => W (.ref C) none σ H) hs hf hc hpa tk (fun W pn xe t1 t2 po => hb W pn xe t1 po) (fun a oe cls d pn hz he t hot => pss_one (L2H.ps_raiseHN hot t (pmk5_own Fx q gC kC r hg hdb)))) fun D σ H ⟨env, ρ, F, s, g, l, k⟩ => ⟨env, ρ, F, s, g, l, ?_⟩
  unfold sTryR at k
  cases er : fb env s with
  | fl f s1 => rw [er] at k; cases f <;> exact k
  | bad => rw [er] at k; exact k
  | exc cn env1 s1 =>
    rw [er] at k
    simp only [] at k
    intro ρ1 F1 H1 σ1 C1 l1 g1 sl1 hC
    split at k
    · rename_i hq
      exact ⟨true, hm cn hq C1 hC, fun _ a ha => k ρ1 F1 H1 σ1 C l1 g1 sl1 (by show X.mg (J c).1 = _; rw [hJ]; exact gC), fun z => nomatch z⟩
    · split at k
      · rename_i hq
        exact ⟨false, hn cn hq C1 hC, (fun z => nomatch z), fun _ => k ρ1 F1 H1 σ1 C1 l1 g1 sl1 hC⟩
      · exact False.elim k
/-! ### try: .. except C: some more -/
end
end Pd
/-! sorted(set(xs)) of texts -/
namespace Pd
open PySem L2
end Pd
/-! Dicts with deep keys. -/
namespace Pd
open PySem L2
mutual
theorem nk_is {X : Cx} {pins : List (Addr × Obj)} {σ : St} {H : Hp} {s : Shared} {Γ : Wd} {ρ : List Addr} {F : Hp} (I : Inv X pins σ H s) (sub : ∀ a o, F a = some o → H a = some o) : ∀ (d : Dt) (v : V) (u : Value) (k : NestedKey), Den Γ ρ F d v → nkD d = some k → RelV v u → NestedIs s.heap k u
  | .non, v, u, k, h, e, r => by
    simp only [Den] at h; subst h
    simp only [nkD, Option.some.injEq] at e; subst e
    cases r; exact .none
  | .bl b, v, u, k, h, e, r => by
    simp only [Den] at h; subst h
    simp only [nkD, Option.some.injEq] at e; subst e
    cases r; exact .bool rfl
  | .int i, v, u, k, h, e, r => by
    simp only [Den] at h; subst h
    simp only [nkD, Option.some.injEq] at e; subst e
    obtain ⟨t, rfl⟩ := (show ∃ t, u = Value.int i t from r)
    exact .int i t
  | .str x, v, u, k, h, e, r => by
    simp only [Den] at h
    obtain ⟨h, _⟩ := h
    subst h
    simp only [nkD, Option.some.injEq] at e; subst e
    obtain ⟨t, rfl⟩ := (show ∃ t, u = Value.str x t from r)
    exact .text x t
  | .tup l, v, u, k, h, e, r => by
    simp only [Den] at h
    obtain ⟨_, a, xs, rfl, q, t⟩ := h
    simp only [nkD, Option.map_eq_some_iff] at e
    obtain ⟨ks, e1, rfl⟩ := e
    obtain rfl : u = Value.ref a := r
    obtain ⟨its, r1, p1, _⟩ := I.tuple (SqT.of (K := X.K) (sub _ _ q))
    obtain ⟨ob, ho, hc, n, hd⟩ := p1
    exact .tup ho hc hd (by simpa using nk_are I sub l xs its ks t e1 r1)
  | .lst _, v, u, k, h, e, r => by simp [nkD] at e
  | .lsk _, v, u, k, h, e, r => by simp [nkD] at e
  | .obj _, v, u, k, h, e, r => by simp [nkD] at e
  | .exc _, v, u, k, h, e, r => by simp [nkD] at e
theorem nk_are {X : Cx} {pins : List (Addr × Obj)} {σ : St} {H : Hp} {s : Shared} {Γ : Wd} {ρ : List Addr} {F : Hp} (I : Inv X pins σ H s) (sub : ∀ a o, F a = some o → H a = some o) : ∀ (ds : List Dt) (vs : List V) (us : List Value) (ks : List NestedKey), Dens Γ ρ F ds vs → nkDs ds = some ks → Vals vs us → NestedAll s.heap ks us
  | [], vs, us, ks, h, e, r => by
    simp only [Dens] at h; subst h
    simp only [nkDs, Option.some.injEq] at e; subst e
    cases r; exact .nil
  | d :: ds, vs, us, ks, h, e, r => by
    simp only [Dens] at h
    obtain ⟨v, vr, rfl, q, t⟩ := h
    simp only [nkDs] at e
    split at e
    · rename_i k ks' e1 e2
      cases e
      cases r with
      | cons ru rt => exact .cons (nk_is I sub d v _ k q e1 ru) (nk_are I sub ds vr _ ks' t e2 rt)
    · cases e
end
section
variable {X : Cx} {pins : List (Addr × Obj)} {σ : St} {H : Hp} {s : Shared} {Γ : Wd} {ρ : List Addr} {F : Hp} {a : Addr}
theorem DenN.keys (I : Inv X pins σ H s) (sub : ∀ a o, F a = some o → H a = some o) : ∀ {ds : List (NestedKey × Dt)} {es : List (NestedKey × Addr × Value)}, DenN Γ ρ F ds es → (∀ kv ∈ ds, kv.1.depth ≤ 8) → ∀ x ∈ es, (nestedKind X.prog X.w).is s.heap x.1 x.2.1
  | [], es, h, _, x, hx => by rw [show es = [] from h] at hx; cases hx
  | (k, d) :: ds, es, h, hd, x, hx => by
    obtain ⟨b, u, v, dk, t, rfl, h1, h2, _, _, h5⟩ := h
    rcases List.mem_cons.mp hx with e | hx
    · subst e
      exact ⟨nk_is I sub dk (.ref b) (.ref b) k h2 h1 rfl, hd _ List.mem_cons_self⟩
    · exact DenN.keys I sub h5 (fun kv hk => hd kv (List.mem_cons_of_mem _ hk)) x hx
theorem DenN.val : ∀ {ds : List (NestedKey × Dt)} {es : List (NestedKey × Addr × Value)} (k : NestedKey), DenN Γ ρ F ds es → (valA ds k = none ∧ atKey es k = none) ∨ ∃ d v u b, valA ds k = some d ∧ atKey es k = some (b, u) ∧ RelV v u ∧ Den Γ ρ F d v
  | [], es, k, h => by rw [show es = [] from h]; exact .inl ⟨rfl, rfl⟩
  | (j, d) :: ds, es, k, h => by
    obtain ⟨b, u, v, dk, t, rfl, _, _, h3, h4, h5⟩ := h
    have ih := DenN.val k h5
    by_cases e : j = k
    · subst e
      exact .inr ⟨d, v, u, b, by simp [valA], by simp [atKey], h3, h4⟩
    · have e1 : valA ((j, d) :: ds) k = valA ds k := by simp [valA, e]
      have e2 : atKey ((j, b, u) :: t) k = atKey t k := by simp [atKey, e]
      rw [e1, e2]
      exact ih
theorem DenN.put {d : Dt} {v : V} {u : Value} {k : NestedKey} {b : Addr} {dk : Dt} (hk : nkD dk = some k) (hb : Den Γ ρ F dk (.ref b)) (hu : RelV v u) (hv : Den Γ ρ F d v) {ds : List (NestedKey × Dt)} {es : List (NestedKey × Addr × Value)} (h : DenN Γ ρ F ds es) : DenN Γ ρ F (putA ds k d) (storedH es k b u) := by
  have hx : (atKey es k).isSome = (valA ds k).isSome := by
    rcases DenN.val k h with ⟨h1, h2⟩ | ⟨_, _, _, _, h1, h2, _⟩ <;> rw [h1, h2] <;> rfl
  have ha : (ds.any fun kv => decide (kv.1 = k)) = (valA ds k).isSome := by
    unfold valA
    rw [Option.isSome_map, List.isSome_find?]
  unfold putA storedH
  rw [ha, hx]
  by_cases hs : (valA ds k).isSome = true
  · rw [if_pos hs, if_pos hs]
    clear hs hx ha
    induction ds generalizing es with
    | nil => rw [show es = [] from h]; exact rfl
    | cons p ds ih =>
      obtain ⟨j, d0⟩ := p
      obtain ⟨b0, u0, v0, dk0, t, rfl, h1, h2, h3, h4, h5⟩ := h
      rw [List.map_cons, List.map_cons]
      by_cases e : j = k
      · subst e
        rw [if_pos rfl]
        refine ⟨b0, u, v, dk0, _, ?_, h1, h2, hu, hv, ih h5⟩
        simp [PySem.putAt]
      · rw [if_neg e]
        refine ⟨b0, u0, v0, dk0, _, ?_, h1, h2, h3, h4, ih h5⟩
        simp [PySem.putAt, e]
  · rw [if_neg hs, if_neg hs]
    clear hs hx ha
    induction ds generalizing es with
    | nil =>
      rw [show es = [] from h]
      exact ⟨b, u, v, dk, [], rfl, hk, hb, hu, hv, rfl⟩
    | cons p ds ih =>
      obtain ⟨j, d0⟩ := p
      obtain ⟨b0, u0, v0, dk0, t, rfl, h1, h2, h3, h4, h5⟩ := h
      exact ⟨b0, u0, v0, dk0, _, rfl, h1, h2, h3, h4, ih h5⟩
end
/-! ### reading and writing by deep keys -/
end Pd
namespace Pd
open PySem L2
end Pd
/-! try: .. except C: of which only the way without such an error is told. -/
namespace Pd
open PySem L2
def sTryOk (tn : List Nat) (fb : Sx) : Sx := fun env s => match fb env s with
  | .exc c' env' s' => if c' ∈ tn then .exc c' env' s' else .bad
  | r => r
section
variable {J : Cn} {X : Cx} {W : WX} {pos : Pos}
theorem ss_try_ok {x : Str} {cv : Value} {tn : List Nat} {body suite : List Stmt} {b₀ : Stmt} {np pos' : Pos} {fb : Sx} (hs : X.stack = X.env :: X.outer) (hf : X.env.frame = some X.env.locals) (hc : Names X x cv) (tk : Tks false X W)
    (hn : XnF J X.K X.mg tn cv)
    (hb : ∀ (W : WX) (pn : List (Addr × Obj)) (xe : Value → Shared → Prop), Tks false (X.tr pn xe) W → PassesOwn (model X.prog X.w) X.A X.env xe → SSs J (X.tr pn xe) W body fb) :
    SS J X W (.Try body [.ExceptHandler (some (.Name x np)) none (b₀ :: suite) pos'] [] [] pos) (sTryOk tn fb) := by
  refine PS.imp (L2.ps_try_only (tb := fun W => tS (wd J X) W fb) (ts := fun a cls d _ _ _ => False) hs hf hc tk (fun W pn xe t1 po => hb W pn xe t1 po) (fun a oe cls d pn hz he => ⟨fun _ _ _ _ _ _ k => k.elim⟩)) fun D σ H ⟨env, ρ, F, s, g, l, k⟩ => ⟨env, ρ, F, s, g, l, ?_⟩
  unfold sTryOk at k
  cases er : fb env s with
  | fl f s1 => rw [er] at k; cases f <;> exact k
  | bad => rw [er] at k; exact k
  | exc cn env1 s1 =>
    rw [er] at k
    simp only [] at k
    intro ρ1 F1 H1 σ1 C1 l1 g1 sl1 hC
    split at k
    · rename_i hq
      exact ⟨false, hn cn hq C1 hC, (fun z => nomatch z), fun _ => k ρ1 F1 H1 σ1 C1 l1 g1 sl1 hC⟩
    · exact False.elim k
end
end Pd
/-! The meanings, run by simp. -/
namespace Pd
open PySem L2
section
variable {α β : Type} {env : En} {s : Sto}
@[simp] theorem run_ok {a : α} {s' : Sto} {k : α → Sto → Out β} : (match (Out.ok a s' : Out α) with | .ok a s' => k a s' | .exc c s' => .exc c s' | .bad => .bad) = k a s' := rfl
@[simp] theorem ev_var {i : Nat} : eVar i env s = (match env[i]? with | some (some d) => .ok d s | _ => .bad) := rfl
@[simp] theorem ev_c {d : Dt} : eC d env s = .ok d s := rfl
@[simp] theorem ev_op {op : Dt → Dt → Sto → Out Dt} {f g : Ex} : eOp op f g env s = bnd (f env) (fun x => bnd (g env) fun y => op x y) s := rfl
@[simp] theorem ev_un {op : Dt → Sto → Out Dt} {f : Ex} : eUn op f env s = bnd (f env) op s := rfl
@[simp] theorem bnd_def {m : Sto → Out α} {k : α → Sto → Out β} : bnd m k s = (match m s with | .ok a s' => k a s' | .exc c s' => .exc c s' | .bad => .bad) := rfl
@[simp] theorem sBnd_def {m : Sto → Out α} {k : α → Sto → Res} : sBnd m env k s = (match m s with | .ok a s' => k a s' | .exc c s' => .exc c env s' | .bad => .bad) := rfl
@[simp] theorem iOp_int {g : Int → Int → Dt} {ok : Int → Int → Bool} {i j : Int} : iOp g ok (.int i) (.int j) s = if ok i j = true then .ok (g i j) s else .bad := rfl
@[simp] theorem ev_seq {f g : Sx} : sSeq f g env s = (match f env s with | .fl (.nx e) s' => g e s' | r => r) := rfl
@[simp] theorem ev_if {t : Tx} {f g : Sx} : sIf t f g env s = sBnd (t env) env (fun c s => if c = true then f env s else g env s) s := rfl
@[simp] theorem ev_ret {f : Ex} : sRet f env s = sBnd (f env) env (fun d s => .fl (.rt d) s) s := rfl
@[simp] theorem ev_next : sNext env s = .fl (.nx env) s := rfl
@[simp] theorem ev_expr {f : Ex} : sExpr f env s = sBnd (f env) env (fun _ s => .fl (.nx env) s) s := rfl
@[simp] theorem ev_asg {f : Ex} {tg : Tg} : sAsg f tg env s = sBnd (f env) env (fun d s => match tg d env s with | some e => .fl (.nx e) s | none => .bad) s := rfl
@[simp] theorem ev_gN {i : Nat} {d : Dt} : gN i d env s = some (env.set i (some d)) := rfl
@[simp] theorem ev_gT {is : List Nat} {l : List Dt} : gT is (.tup l) env s = setAll is l env := rfl
@[simp] theorem setAll_nil : setAll [] [] env = some env := rfl
@[simp] theorem setAll_cons {i : Nat} {is : List Nat} {d : Dt} {ds : List Dt} : setAll (i :: is) (d :: ds) env = setAll is ds (env.set i (some d)) := rfl
@[simp] theorem ev_tru {f : Ex} : tTru f env s = bnd (f env) (fun d s => ofB s (truD s d)) s := rfl
@[simp] theorem ev_bl {f : Ex} : tBl f env s = bnd (f env) (fun d s => match d with | .bl b => .ok b s | _ => .bad) s := rfl
@[simp] theorem ev_and {f g : Tx} : tAnd f g env s = bnd (f env) (fun c s => if c = true then g env s else .ok false s) s := rfl
@[simp] theorem ev_or {f g : Tx} : tOr f g env s = bnd (f env) (fun c s => if c = true then .ok true s else g env s) s := rfl
@[simp] theorem ev_not {f : Tx} : tNot f env s = bnd (f env) (fun c s => .ok (!c) s) s := rfl
@[simp] theorem ev_yes : Pd.tYes env s = .ok true s := rfl
@[simp] theorem ev_andE {f g : Ex} : eAnd f g env s = bnd (f env) (fun d s => match truD s d with | some true => g env s | some false => .ok d s | none => .bad) s := rfl
@[simp] theorem ev_orE {f g : Ex} : eOr f g env s = bnd (f env) (fun d s => match truD s d with | some true => .ok d s | some false => g env s | none => .bad) s := rfl
@[simp] theorem ev_notE {f : Ex} : eNot f env s = bnd (f env) (fun d s => ofO s ((truD s d).map fun b => .bl (!b))) s := rfl
@[simp] theorem ev_ifE {t : Tx} {f g : Ex} : eIf t f g env s = bnd (t env) (fun c s => if c = true then f env s else g env s) s := rfl
@[simp] theorem ev_chain {op op' : Dt → Dt → Sto → Out Dt} {f g h : Ex} : eChain op op' f g h env s = bnd (f env) (fun x => bnd (g env) fun y => bnd (op x y) fun z s => match z with | .bl true => bnd (h env) (fun w => op' y w) s | .bl false => .ok (.bl false) s | _ => .bad) s := rfl
@[simp] theorem ofB_some {b : Bool} : ofB s (some b) = .ok b s := rfl
@[simp] theorem ofO_some {d : Dt} : ofO s (some d) = .ok d s := rfl
@[simp] theorem ofO_none : ofO s none = .bad := rfl
@[simp] theorem truD_non : truD s .non = some false := rfl
@[simp] theorem truD_bl {b : Bool} : truD s (.bl b) = some b := rfl
@[simp] theorem truD_int {i : Int} : truD s (.int i) = some (i != 0) := rfl
@[simp] theorem truD_str {x : Str} : truD s (.str x) = some ((x.length : Int) != 0) := rfl
@[simp] theorem truD_tup {l : List Dt} : truD s (.tup l) = some (!l.isEmpty) := rfl
@[simp] theorem truD_lst {l : List Dt} : truD s (.lst l) = some (!l.isEmpty) := rfl
@[simp] theorem truD_lsk {l : List Dt} : truD s (.lsk l) = some (!l.isEmpty) := rfl
@[simp] theorem evs_nil : evs [] env s = .ok [] s := rfl
@[simp] theorem evs_cons {f : Ex} {fs : List Ex} : evs (f :: fs) env s = bnd (f env) (fun d => bnd (evs fs env) fun ds s => .ok (d :: ds) s) s := rfl
@[simp] theorem ev_tup {fs : List Ex} : eTup fs env s = bnd (evs fs env) (fun ds s => .ok (.tup ds) s) s := rfl
@[simp] theorem ev_lst {nw : List Dt → Sto → Out Dt} {fs : List Ex} : eLst nw fs env s = bnd (evs fs env) nw s := rfl
@[simp] theorem ev_nwF {ds : List Dt} : nwF ds s = .ok (.lst ds) s := rfl
@[simp] theorem ev_nwM {ds : List Dt} : nwM ds s = .ok (.obj s.length) (s ++ [.lst ds]) := rfl
@[simp] theorem ev_call {m : Fn} {fs : List Ex} : eCall m fs env s = bnd (evs fs env) m s := rfl
@[simp] theorem ev_meth {c : Nat} {m : Fn} {fo : Ex} {fs : List Ex} : eMeth c m fo fs env s = bnd (fo env) (fun x s => match insD s c x with | some _ => bnd (evs fs env) (fun ds => m (x :: ds)) s | none => .bad) s := rfl
@[simp] theorem ev_make {c : Nat} {m : Fn} {fs : List Ex} : eMake c m fs env s = bnd (evs fs env) (fun ds s => bnd (m (.obj s.length :: ds)) (fun _ s' => .ok (.obj s.length) s') (s ++ [.ins c []])) s := rfl
@[simp] theorem ev_fld {c i : Nat} {fo : Ex} : eFld c i fo env s = bnd (fo env) (fun d s => ofO s ((insD s c d).bind fun p => p.2[i]?)) s := rfl
theorem insD_obj {c j : Nat} {ds : List Dt} (h : s[j]? = some (.ins c ds)) : insD s c (.obj j) = some (j, ds) := by simp only [insD, h, if_true]
@[simp] theorem ev_setF {c i : Nat} {fo fv : Ex} : sSetF c i fo fv env s = sBnd (fv env) env (fun y => sBnd (fo env) env fun d s => match setFD s c i d y with | some s' => .fl (.nx env) s' | none => .bad) s := rfl
theorem setFD_obj {c i j : Nat} {ds : List Dt} {y : Dt} (h : s[j]? = some (.ins c ds)) (hi : i ≤ ds.length) : setFD s c i (.obj j) y = some (s.set j (.ins c (putI i y ds))) := by simp only [setFD, insD_obj h, Option.bind_some, if_pos hi]
@[simp] theorem ev_bm1 {ty : Sto → Dt → Bool} {op : Dt → Dt → Sto → Out Dt} {fo fe : Ex} : eBm1 ty op fo fe env s = bnd (fo env) (fun x s => if ty s x = true then bnd (fe env) (fun y => op x y) s else .bad) s := rfl
theorem isLst_obj {i : Nat} {l : List Dt} (h : s[i]? = some (.lst l)) : isLst s (.obj i) = true := by simp [isLst, asL, h]
theorem lstAt_obj {i : Nat} {l : List Dt} (h : s[i]? = some (.lst l)) : lstAt s (.obj i) = some (i, l) := by simp only [lstAt, h]
theorem dApp_obj {i : Nat} {l : List Dt} {y : Dt} (h : s[i]? = some (.lst l)) (hz : l.length < sizeLine) : dApp (.obj i) y s = .ok .non (s.set i (.lst (l ++ [y]))) := by simp only [dApp, lstAt_obj h, if_pos hz]
@[simp] theorem asQ_tup {l : List Dt} : asQ s (.tup l) = some l := rfl
@[simp] theorem asQ_lst {l : List Dt} : asQ s (.lst l) = some l := rfl
@[simp] theorem asQ_lsk {l : List Dt} : asQ s (.lsk l) = some l := rfl
@[simp] theorem asL_lst {l : List Dt} : asL s (.lst l) = some l := rfl
@[simp] theorem asL_lsk {l : List Dt} : asL s (.lsk l) = some l := rfl
theorem asQ_obj {i : Nat} {l : List Dt} (h : s[i]? = some (.lst l)) : asQ s (.obj i) = some l := by simp only [asQ, asL, h]
@[simp] theorem dLen_tup {l : List Dt} : dLen (.tup l) s = .ok (.int l.length) s := rfl
@[simp] theorem dLen_lst {l : List Dt} : dLen (.lst l) s = .ok (.int l.length) s := rfl
@[simp] theorem dLen_lsk {l : List Dt} : dLen (.lsk l) s = .ok (.int l.length) s := rfl
@[simp] theorem dLen_str {l : Str} : dLen (.str l) s = .ok (.int l.length) s := rfl
theorem dLen_obj {i : Nat} {l : List Dt} (h : s[i]? = some (.lst l)) : dLen (.obj i) s = .ok (.int l.length) s := by simp only [dLen, lenD, h]; rfl
@[simp] theorem dIx_tup {l : List Dt} {i : Int} : dIx (.tup l) (.int i) s = ofO s (atI l i) := rfl
@[simp] theorem dIx_lst {l : List Dt} {i : Int} : dIx (.lst l) (.int i) s = ofO s (atI l i) := rfl
@[simp] theorem dIx_lsk {l : List Dt} {i : Int} : dIx (.lsk l) (.int i) s = ofO s (atI l i) := rfl
@[simp] theorem dIx_str {z : Str} {i : Int} : dIx (.str z) (.int i) s = ofO s ((atI z.cps.toList i).map fun c => .str ⟨#[c]⟩) := rfl
@[simp] theorem dAdd_int {nw : List Dt → Sto → Out Dt} {i j : Int} : dAdd nw (.int i) (.int j) s = .ok (.int (i + j)) s := rfl
@[simp] theorem dNeg_int {i : Int} : dNeg (.int i) s = .ok (.int (-i)) s := rfl
@[simp] theorem isN_def {d : Dt} : dIsN d s = .ok (.bl (isNon d)) s := rfl
@[simp] theorem notN_def {d : Dt} : dNotN d s = .ok (.bl (!isNon d)) s := rfl
@[simp] theorem isNon_non : isNon .non = true := rfl
@[simp] theorem isNon_int {i : Int} : isNon (.int i) = false := rfl
@[simp] theorem isNon_bl {i : Bool} : isNon (.bl i) = false := rfl
@[simp] theorem isNon_str {i : Str} : isNon (.str i) = false := rfl
@[simp] theorem isNon_tup {i : List Dt} : isNon (.tup i) = false := rfl
@[simp] theorem isNon_lst {i : List Dt} : isNon (.lst i) = false := rfl
@[simp] theorem isNon_obj {i : Nat} : isNon (.obj i) = false := rfl
@[simp] theorem isNon_exc {i : Nat} : isNon (.exc i) = false := rfl
/-! equality -/
@[simp] theorem dEq_int {i j : Int} : dEq (.int i) (.int j) s = .ok (.bl (i == j)) s := rfl
@[simp] theorem dNe_int {i j : Int} : dNe (.int i) (.int j) s = .ok (.bl (!(i == j))) s := rfl
@[simp] theorem dEq_str {i j : Str} : dEq (.str i) (.str j) s = .ok (.bl (i == j)) s := rfl
@[simp] theorem dNe_str {i j : Str} : dNe (.str i) (.str j) s = .ok (.bl (!(i == j))) s := rfl
@[simp] theorem dEq_bl {i j : Bool} : dEq (.bl i) (.bl j) s = .ok (.bl (i == j)) s := rfl
end
theorem rep_zero : List.replicate 0 (none : Option Dt) = [] := rfl
theorem rep_succ {n : Nat} : List.replicate (n + 1) (none : Option Dt) = none :: List.replicate n none := rfl
/-- places of a written list -/
theorem atI_ofNat {α : Type} (l : List α) (n : Nat) : atI l (n : Int) = l[n]? := by
  unfold atI ixN
  rw [if_pos (Int.natCast_nonneg n)]
  by_cases h : n < l.length
  · rw [if_pos (by exact_mod_cast h)]; simp
  · rw [if_neg (by exact_mod_cast h)]
    simp
    omega
@[simp] theorem atI_zero {α : Type} (l : List α) : atI l 0 = l[0]? := atI_ofNat l 0
@[simp] theorem atI_one {α : Type} (l : List α) : atI l 1 = l[1]? := atI_ofNat l 1
@[simp] theorem atI_2 {α : Type} (l : List α) : atI l 2 = l[2]? := atI_ofNat l 2
@[simp] theorem atI_3 {α : Type} (l : List α) : atI l 3 = l[3]? := atI_ofNat l 3
@[simp] theorem atI_4 {α : Type} (l : List α) : atI l 4 = l[4]? := atI_ofNat l 4
@[simp] theorem atI_5 {α : Type} (l : List α) : atI l 5 = l[5]? := atI_ofNat l 5
@[simp] theorem atI_6 {α : Type} (l : List α) : atI l 6 = l[6]? := atI_ofNat l 6
@[simp] theorem atI_7 {α : Type} (l : List α) : atI l 7 = l[7]? := atI_ofNat l 7
@[simp] theorem atI_8 {α : Type} (l : List α) : atI l 8 = l[8]? := atI_ofNat l 8
@[simp] theorem atI_9 {α : Type} (l : List α) : atI l 9 = l[9]? := atI_ofNat l 9
@[simp] theorem atI_10 {α : Type} (l : List α) : atI l 10 = l[10]? := atI_ofNat l 10
@[simp] theorem atI_11 {α : Type} (l : List α) : atI l 11 = l[11]? := atI_ofNat l 11
@[simp] theorem atI_12 {α : Type} (l : List α) : atI l 12 = l[12]? := atI_ofNat l 12
theorem atI_m1 {α : Type} (l : List α) : atI l (-1) = l.getLast? := by
  rcases List.eq_nil_or_concat l with e | ⟨r, x, e⟩
  · subst e; rfl
  · subst e
    rw [List.concat_eq_append, atI_last, List.getLast?_append]
    rfl
theorem dAdd_tup {nw : List Dt → Sto → Out Dt} {l m : List Dt} {s : Sto} (h : l.length + m.length ≤ 1000) : dAdd nw (.tup l) (.tup m) s = .ok (.tup (l ++ m)) s := by
  simp only [dAdd]
  rw [if_pos (by rw [sizeLine_eq]; omega)]
end Pd
namespace Pd
open PySem L2
/-- a loop by what holds between its turns -/
theorem for_inv {tg : Tg} {body : Sx} {ok : Sto → Prop} (I : List Dt → En → Sto → Prop) (all : List Dt) : ∀ (l pre : List Dt), all = pre ++ l → ∀ (env : En) (s : Sto), I pre env s →
    (∀ pre d post env s, all = pre ++ d :: post → I pre env s → ok s ∧ ∃ env1, tg d env s = some env1 ∧ ∃ e s', (body env1 s = .fl (.nx e) s' ∨ body env1 s = .fl (.ct e) s') ∧ I (pre ++ [d]) e s') → (∀ env s, I all env s → ok s) →
    ∃ e s', forGo tg body ok l env s = .fl (.nx e) s' ∧ I all e s'
  | [], pre, ha, env, s, hi, hs, hd => by
    rw [List.append_nil] at ha
    subst ha
    exact ⟨env, s, by simp only [forGo, if_pos (hd env s hi)], hi⟩
  | d :: r, pre, ha, env, s, hi, hs, hd => by
    obtain ⟨hok, env1, h1, e, s', h2, h3⟩ := hs pre d r env s ha hi
    obtain ⟨e2, s2, h4, h5⟩ := for_inv I all r (pre ++ [d]) (by rw [ha, List.append_assoc]; rfl) e s' h3 hs hd
    refine ⟨e2, s2, ?_, h5⟩
    rcases h2 with h2 | h2
    · simp only [forGo, if_pos hok, h1, h2]; exact h4
    · simp only [forGo, if_pos hok, h1, h2]; exact h4
/-- .. over the numbers below n -/
theorem for_range_inv {tg : Tg} {body : Sx} (I : Nat → En → Sto → Prop) (n : Nat) {env : En} {s : Sto} (h0 : I 0 env s)
    (hs : ∀ k env s, k < n → I k env s → ∃ env1, tg (.int k) env s = some env1 ∧ ∃ e s', (body env1 s = .fl (.nx e) s' ∨ body env1 s = .fl (.ct e) s') ∧ I (k + 1) e s') :
    ∃ e s', forGo tg body (fun _ => True) ((List.range n).map fun (k : Nat) => .int k) env s = .fl (.nx e) s' ∧ I n e s' := by
  obtain ⟨e, s', h1, h2⟩ := for_inv (tg := tg) (body := body) (ok := fun _ => True) (fun pre env s => ∃ k, k ≤ n ∧ pre = (List.range k).map (fun (k : Nat) => Dt.int k) ∧ I k env s) ((List.range n).map fun (k : Nat) => .int k) _ [] rfl env s ⟨0, Nat.zero_le _, rfl, h0⟩
    (fun pre d post env s ha ⟨k, hk, ep, hi⟩ => by
      have hlen : pre.length = k := by rw [ep, List.length_map, List.length_range]
      have hkn : k < n := by
        have := congrArg List.length ha
        simp at this
        omega
      have ed : d = .int k := by
        have z : ((List.range n).map fun (k : Nat) => Dt.int k)[k]? = some d := by rw [ha, ← hlen]; simp
        rw [List.getElem?_map, List.getElem?_range hkn] at z
        simpa using z.symm
      subst ed
      obtain ⟨env1, h1, e, s', h2, h3⟩ := hs k env s hkn hi
      exact ⟨trivial, env1, h1, e, s', h2, k + 1, hkn, by rw [ep, List.range_succ, List.map_append]; rfl, h3⟩) (fun _ _ _ => trivial)
  obtain ⟨k, hk, ep, hi⟩ := h2
  have : k = n := by
    have := congrArg List.length ep
    simp at this
    omega
  subst this
  exact ⟨e, s', h1, hi⟩
@[simp] theorem ev_for {fi : Is} {tg : Tg} {body : Sx} {env : En} {s : Sto} : sFor fi tg body env s = sBnd (fi env) env (fun p => forGo tg body p.2 p.1 env) s := rfl
@[simp] theorem ev_lc {nw : List Dt → Sto → Out Dt} {vs : List Nat} {fi : Is} {tg : Tg} {ft : Tx} {fe : Ex} {env : En} {s : Sto} : eLc nw vs fi tg ft fe env s = bnd (fi env) (fun p => bndN (lcGo tg ft fe p.2 p.1 (wipeD env vs)) nw) s := rfl
@[simp] theorem wipeD_nil {env : En} : wipeD env [] = env := rfl
@[simp] theorem wipeD_cons {env : En} {v : Nat} {vs : List Nat} : wipeD env (v :: vs) = (wipeD env vs).set v none := rfl
theorem bndN_ok {α β : Type} {m : Sto → Out α} {k : α → Sto → Out β} {s s' : Sto} {a : α} (h : m s = .ok a s') : bndN m k s = k a s' := by unfold bndN; rw [h]
@[simp] theorem ev_iSeq {f : Ex} {env : En} {s : Sto} : iSeq f env s = bnd (β := List Dt × (Sto → Prop)) (f env) (fun d s => match d with
  | .str x => .ok (signs x, fun _ => True) s
  | d => match asQ s d with
    | some l => .ok (l, fun s' => asQ s' d = some l) s
    | none => .bad) s := rfl
@[simp] theorem ev_iRange {f : Ex} {env : En} {s : Sto} : iRange f env s = bnd (β := List Dt × (Sto → Prop)) (f env) (fun d s => match d with
  | .int n => if n ≤ 16777216 ∧ -(2 ^ 62) ≤ n then .ok ((List.range n.toNat).map fun (k : Nat) => .int k, fun _ => True) s else .bad
  | _ => .bad) s := rfl
theorem ev_sl {nw : List Dt → Sto → Out Dt} {fa : Ex} {lo hi : Option Ex} {env : En} {s : Sto} : eSl nw fa lo hi env s = bnd (fa env) (fun x => bnd (evp lo env) fun l => bnd (evp hi env) fun u => dSl nw x l u) s := rfl
theorem evp_none {env : En} {s : Sto} : evp none env s = .ok none s := rfl
theorem evp_some {f : Ex} {env : En} {s : Sto} : evp (some f) env s = bnd (f env) (fun d s => match d with | .int i => .ok (some i) s | _ => .bad) s := rfl
theorem dSl_tup {nw : List Dt → Sto → Out Dt} {l : List Dt} {lo hi : Option Int} {s : Sto} : dSl nw (.tup l) lo hi s = .ok (.tup (cutD l lo hi)) s := rfl
theorem dSl_lst {nw : List Dt → Sto → Out Dt} {l : List Dt} {lo hi : Option Int} {s : Sto} : dSl nw (.lst l) lo hi s = nw (cutD l lo hi) s := rfl
/-! ### equal data -/
mutual
def noDict : PyData → Bool
  | .list xs => noDicts xs
  | .tuple xs => noDicts xs
  | .dict _ => false
  | _ => true
def noDicts : List PyData → Bool
  | [] => true
  | x :: xs => noDict x && noDicts xs
end
mutual
theorem eqv_self : ∀ p : PyData, noDict p = true → PyData.eqv p p = true
  | .none, _ => rfl
  | .bool b, _ => by simp [PyData.eqv]
  | .int i, _ => by simp [PyData.eqv]
  | .str x, _ => by simp [PyData.eqv]
  | .list xs, h => by simp only [PyData.eqv]; exact eqvAll_self xs (by simpa only [noDict] using h)
  | .tuple xs, h => by simp only [PyData.eqv]; exact eqvAll_self xs (by simpa only [noDict] using h)
  | .dict xs, h => by simp [noDict] at h
theorem eqvAll_self : ∀ p : List PyData, noDicts p = true → PyData.eqvAll p p = true
  | [], _ => rfl
  | x :: xs, h => by
    simp only [noDicts, Bool.and_eq_true] at h
    simp only [PyData.eqvAll, eqv_self x h.1, eqvAll_self xs h.2, Bool.and_self]
end
mutual
theorem toPy_noDict : ∀ (d : Dt) (p : PyData), toPy d = some p → noDict p = true
  | .non, p, h => by simp only [toPy, Option.some.injEq] at h; subst h; rfl
  | .bl _, p, h => by simp only [toPy, Option.some.injEq] at h; subst h; rfl
  | .int _, p, h => by simp only [toPy, Option.some.injEq] at h; subst h; rfl
  | .str _, p, h => by simp only [toPy, Option.some.injEq] at h; subst h; rfl
  | .tup l, p, h => by
    simp only [toPy, Option.map_eq_some_iff] at h
    obtain ⟨q, e1, e2⟩ := h
    subst e2
    simp only [noDict]
    exact toPys_noDict l q e1
  | .lst l, p, h => by
    simp only [toPy, Option.map_eq_some_iff] at h
    obtain ⟨q, e1, e2⟩ := h
    subst e2
    simp only [noDict]
    exact toPys_noDict l q e1
  | .lsk l, p, h => by
    simp only [toPy, Option.map_eq_some_iff] at h
    obtain ⟨q, e1, e2⟩ := h
    subst e2
    simp only [noDict]
    exact toPys_noDict l q e1
  | .obj _, p, h => by simp [toPy] at h
  | .exc _, p, h => by simp [toPy] at h
theorem toPys_noDict : ∀ (d : List Dt) (p : List PyData), toPys d = some p → noDicts p = true
  | [], p, h => by simp only [toPys, Option.some.injEq] at h; subst h; rfl
  | d :: ds, p, h => by
    simp only [toPys] at h
    split at h
    · rename_i a b ha hb
      cases h
      simp only [noDicts, toPy_noDict d a ha, toPys_noDict ds b hb, Bool.and_self]
    · cases h
end
mutual
def dpt : Dt → Option Nat
  | .non => some 0
  | .bl _ => some 0
  | .int _ => some 0
  | .str _ => some 0
  | .tup l => (dpts l).map (· + 1)
  | .lst l => (dpts l).map (· + 1)
  | .lsk l => (dpts l).map (· + 1)
  | .obj _ => none
  | .exc _ => none
def dpts : List Dt → Option Nat
  | [] => some 0
  | d :: ds => match dpt d, dpts ds with
    | some a, some b => some (max a b)
    | _, _ => none
end
mutual
theorem dpt_py : ∀ (d : Dt) (n : Nat), dpt d = some n → ∃ p, toPy d = some p ∧ p.depth = n
  | .non, n, h => by simp only [dpt, Option.some.injEq] at h; exact ⟨_, rfl, by simp only [PyData.depth]; exact h⟩
  | .bl _, n, h => by simp only [dpt, Option.some.injEq] at h; exact ⟨_, rfl, by simp only [PyData.depth]; exact h⟩
  | .int _, n, h => by simp only [dpt, Option.some.injEq] at h; exact ⟨_, rfl, by simp only [PyData.depth]; exact h⟩
  | .str _, n, h => by simp only [dpt, Option.some.injEq] at h; exact ⟨_, rfl, by simp only [PyData.depth]; exact h⟩
  | .tup l, n, h => by
    simp only [dpt, Option.map_eq_some_iff] at h
    obtain ⟨m, e1, e2⟩ := h
    obtain ⟨q, e3, e4⟩ := dpts_py l m e1
    exact ⟨.tuple q, by simp only [toPy, e3, Option.map_some], by simp only [PyData.depth]; omega⟩
  | .lst l, n, h => by
    simp only [dpt, Option.map_eq_some_iff] at h
    obtain ⟨m, e1, e2⟩ := h
    obtain ⟨q, e3, e4⟩ := dpts_py l m e1
    exact ⟨.list q, by simp only [toPy, e3, Option.map_some], by simp only [PyData.depth]; omega⟩
  | .lsk l, n, h => by
    simp only [dpt, Option.map_eq_some_iff] at h
    obtain ⟨m, e1, e2⟩ := h
    obtain ⟨q, e3, e4⟩ := dpts_py l m e1
    exact ⟨.list q, by simp only [toPy, e3, Option.map_some], by simp only [PyData.depth]; omega⟩
  | .obj _, n, h => by simp [dpt] at h
  | .exc _, n, h => by simp [dpt] at h
theorem dpts_py : ∀ (d : List Dt) (n : Nat), dpts d = some n → ∃ p, toPys d = some p ∧ PyData.depthAll p = n
  | [], n, h => by simp only [dpts, Option.some.injEq] at h; exact ⟨[], rfl, by simp only [PyData.depthAll]; exact h⟩
  | d :: ds, n, h => by
    simp only [dpts] at h
    split at h
    · rename_i a b ha hb
      cases h
      obtain ⟨p, e1, e2⟩ := dpt_py d a ha
      obtain ⟨q, e3, e4⟩ := dpts_py ds b hb
      exact ⟨p :: q, by simp only [toPys, e1, e3], by simp only [PyData.depthAll, e2, e4]⟩
    · cases h
end
theorem dEq_self {d : Dt} {n : Nat} {s : Sto} (h : dpt d = some n) (hn : n ≤ 64) : dEq d d s = .ok (.bl true) s ∧ dNe d d s = .ok (.bl false) s := by
  obtain ⟨p, e1, e2⟩ := dpt_py d n h
  have e3 : toPyS s d = some p := by
    cases d with
    | obj i => simp [dpt] at h
    | _ => exact e1
  have e4 : dEqB s d d = some true := by
    simp only [dEqB, e3, e2, if_pos (And.intro hn hn), eqv_self p (toPy_noDict d p e1)]
  constructor
  · simp only [dEq, e4, Option.map_some, ofO_some]
  · simp only [dNe, e4, Option.map_some, ofO_some, Bool.not_true]
end Pd
namespace Pd
open PySem L2
/-! ### comprehensions over written-out lists -/
theorem lc_map {α : Type} {tg : Tg} {ft : Tx} {fe : Ex} {ok : Sto → Prop} {env : En} {s : Sto} {f g : α → Dt} (hok : ok s) : ∀ {l : List α}, (∀ a ∈ l, ∃ env1, tg (f a) env s = some env1 ∧ ft env1 s = .ok true s ∧ fe env1 s = .ok (g a) s) → lcGo tg ft fe ok (l.map f) env s = .ok (l.map g) s
  | [], _ => by simp only [List.map_nil, lcGo, if_pos hok]
  | d :: r, h => by
    obtain ⟨env1, h1, h2, h3⟩ := h d List.mem_cons_self
    have ih := lc_map (l := r) hok fun d hd => h d (List.mem_cons_of_mem _ hd)
    simp only [List.map_cons, lcGo, if_pos hok, h1, bndN, h2, h3, ih, if_true]
/-- .. where the store changes: what holds between the turns -/
theorem lc_inv {tg : Tg} {fe : Ex} {ok : Sto → Prop} {env : En} (I : Nat → Sto → Prop) (P : Dt → Prop) (N : Nat) (hok : ∀ n s, I n s → ok s) : ∀ {l : List Dt} {n : Nat} {s : Sto}, n + l.length ≤ N → I n s →
    (∀ n s, ∀ d ∈ l, n < N → I n s → ∃ env1, tg d env s = some env1 ∧ ∃ y s', fe env1 s = .ok y s' ∧ P y ∧ I (n + 1) s') → ∃ ys s', lcGo tg Pd.tYes fe ok l env s = .ok ys s' ∧ I (n + l.length) s' ∧ ys.length = l.length ∧ ∀ y ∈ ys, P y
  | [], n, s, _, hi, _ => ⟨[], s, by simp only [lcGo, if_pos (hok n s hi)], hi, rfl, fun _ h => nomatch h⟩
  | d :: r, n, s, hN, hi, h => by
    rw [List.length_cons] at hN
    obtain ⟨env1, h1, y, s1, h2, hp, h3⟩ := h n s d List.mem_cons_self (by omega) hi
    obtain ⟨ys, s2, h4, h5, h6, h7⟩ := lc_inv (tg := tg) (fe := fe) (ok := ok) (env := env) I P N hok (l := r) (n := n + 1) (by omega) h3 fun n s d hd => h n s d (List.mem_cons_of_mem _ hd)
    refine ⟨y :: ys, s2, ?_, ?_, by rw [List.length_cons, List.length_cons, h6], fun z hz => ?_⟩
    · simp only [lcGo, if_pos (hok n s hi), h1, bndN, ev_yes, if_true, h2, h4]
    · rw [List.length_cons]; rw [show n + (r.length + 1) = n + 1 + r.length by omega]; exact h5
    · rcases List.mem_cons.mp hz with e | hz
      · rw [e]; exact hp
      · exact h7 z hz
/-! ### texts -/
theorem mkS_beq (a b : List Nat) : (mkS a == mkS b) = (a == b) := by
  rw [Bool.eq_iff_iff]
  simp only [beq_iff_eq]
  exact ⟨fun h => by have := congrArg (fun x : Str => x.cps.toList) h; simpa using this, fun h => by rw [h]⟩
theorem mkS_eq (x : Str) : x = mkS x.cps.toList := (TL.mk_tl x).symm
theorem mkS_len (l : List Nat) : (mkS l).length = l.length := len_codes _
theorem dLen_mk {l : List Nat} {s : Sto} : dLen (.str (mkS l)) s = .ok (.int l.length) s := by rw [dLen_str, mkS_len]
theorem isStr_str {x : Str} {s : Sto} : isStr s (.str x) = true := rfl
theorem isLst_lst {l : List Dt} {s : Sto} : isLst s (.lst l) = true := rfl
theorem dSplit_mk {nw : List Dt → Sto → Out Dt} {a : List Nat} {s : Sto} : dSplit nw (.str (mkS a)) (.str (mkS [47])) s = nw ((splC 47 a).map fun l => .str (mkS l)) s := rfl
theorem signs_mk (l : List Nat) : signs (mkS l) = l.map fun c => .str (mkS [c]) := rfl
theorem dOrd_mk {c : Nat} {s : Sto} : dOrd (.str (mkS [c])) s = .ok (.int c) s := rfl
theorem dIn_sign {c : Nat} {z : List Nat} {s : Sto} : dIn (.str (mkS [c])) (.str (mkS z)) s = .ok (.bl (decide (c ∈ z))) s := rfl
theorem dNotIn_sign {c : Nat} {z : List Nat} {s : Sto} : dNotIn (.str (mkS [c])) (.str (mkS z)) s = .ok (.bl (!decide (c ∈ z))) s := rfl
theorem asB_map {α : Type} (q : α → Bool) : ∀ l : List α, asB (l.map fun a => .bl (q a)) = some (l.map q)
  | [] => rfl
  | a :: r => by simp only [List.map_cons, asB, asB_map q r, Option.map_some]
theorem dAll_map {α : Type} {q : α → Bool} {l : List α} {s : Sto} : dAll (.lst (l.map fun a => .bl (q a))) s = .ok (.bl (l.all q)) s := by
  simp only [dAll, asL_lst, Option.bind_some, asB_map, Option.map_some, ofO_some, List.all_map]
  rfl
/-! slices -/
theorem cut_init {α : Type} (xs : List α) : cutD xs none (some (-1)) = xs.dropLast := by
  unfold cutD
  have h1 : HT.sIx xs.length xs.length (some (-1)) = xs.length - 1 := by
    show (if (-1 : Int) < 0 then (-1 + (xs.length : Int)).toNat else min (-1 : Int).toNat xs.length) = _
    rw [if_pos (by decide)]
    omega
  rw [HT.sIx_none, h1, List.drop_zero, Nat.sub_zero, List.dropLast_eq_take]
/-- a list of levels -/
abbrev lvs (ps : List (List Nat)) : List Dt := ps.map fun l => .str (mkS l)
theorem str_obj {a b : List Nat} : dAdd nwF (.str (mkS a)) (.str (mkS b)) = fun s => if a.length + b.length ≤ 1000000 then .ok (.str (mkS (a ++ b))) s else .bad := by
  funext s
  have e : mkS a ++ mkS b = mkS (a ++ b) := TL.ext_tl (TL.tl_append _ _)
  simp only [dAdd, mkS_len, e]
theorem asS_lvs (ps : List (List Nat)) : asS (lvs ps) = some (ps.map mkS) := by
  have := asS_map (ps.map mkS)
  rw [List.map_map] at this
  exact this
theorem sum_mkS (ps : List (List Nat)) : ((ps.map mkS).map (·.length)).sum = (ps.map (·.length)).sum := by
  rw [List.map_map]
  congr 1
theorem dJoin_lst {ps : List (List Nat)} {s : Sto} {d : Dt} (hd : asQ s d = some (lvs ps)) (h : (ps.map (·.length)).sum + ps.length ≤ 1000000) : dJoin (.str (mkS [47])) d s = .ok (.str (mkS (TL.joinL [47] ps))) s := by
  simp only [dJoin, hd, Option.bind_some, asS_lvs]
  rw [sum_mkS, List.length_map, if_pos (by rw [mkS_len]; simpa using h), List.map_map]
  have : ((fun x : Str => x.cps.toList) ∘ mkS) = id := by funext l; rfl
  rw [this, List.map_id]
theorem splC_last_ne (l : List Nat) : ∃ p, (splC 47 l).getLast? = some p := by
  cases e : (splC 47 l).getLast? with
  | none => exact absurd (List.getLast?_eq_none_iff.mp e) (splC_ne 47 l)
  | some p => exact ⟨p, rfl⟩
@[simp] theorem ev_tryH {ih ie : Nat} {tb : List Nat} {fb : Sx} {env : En} {s : Sto} : sTryH ih ie tb fb env s = (match fb env s with | .exc c env' s' => if c ∈ tb ∧ ie < env'.length then .fl (.nx ((env'.set ih (some (.exc c))).set ie none)) s' else .bad | r => r) := rfl
@[simp] theorem ev_setI {fo fi fv : Ex} {env : En} {s : Sto} : sSetI fo fi fv env s = sBnd (fv env) env (fun v => sBnd (fo env) env fun x => sBnd (fi env) env fun y s => match putAt x y v s with | some s' => .fl (.nx env) s' | none => .bad) s := rfl
@[simp] theorem ev_raise {c : Nat} {env : En} {s : Sto} : sRaise c env s = .exc c env s := rfl
@[simp] theorem dIsx_exc {tb : List (Nat × Bool)} {c : Nat} {s : Sto} : dIsx tb (.exc c) s = ofO s ((tb.lookup c).map .bl) := rfl
end Pd
/-! What stands in the store, part by part (parts stand apart). -/
namespace Pd
open PySem L2
/-- an assertion about some places of the store -/
structure SP where
  P : List Nat → Sto → Prop
  loc : ∀ {fp : List Nat} {s s' : Sto}, (∀ i ∈ fp, s'[i]? = s[i]?) → P fp s → P fp s'
  bd : ∀ {fp : List Nat} {s : Sto}, P fp s → ∀ i ∈ fp, i < s.length
def At (i : Nat) (m : Mo) : SP where
  P := fun fp s => fp = [i] ∧ s[i]? = some m
  loc := fun h ⟨e, q⟩ => ⟨e, by rw [h _ (by rw [e]; exact List.mem_singleton_self _)]; exact q⟩
  bd := fun ⟨e, q⟩ j hj => by
    rw [e, List.mem_singleton] at hj
    rw [hj]
    exact (List.getElem?_eq_some_iff.mp q).1
def Exi {α : Type} (f : α → SP) : SP where
  P := fun fp s => ∃ a, (f a).P fp s
  loc := fun h ⟨a, q⟩ => ⟨a, (f a).loc h q⟩
  bd := fun ⟨a, q⟩ => (f a).bd q
def Pu (p : Prop) : SP where
  P := fun fp _ => fp = [] ∧ p
  loc := fun _ q => q
  bd := fun ⟨e, _⟩ i hi => by rw [e] at hi; cases hi
def Emp : SP := ⟨fun fp _ => fp = [], fun _ h => h, fun e i hi => by rw [e] at hi; cases hi⟩
def Star (A B : SP) : SP where
  P := fun fp s => ∃ f1 f2, fp = f1 ++ f2 ∧ A.P f1 s ∧ B.P f2 s
  loc := fun h ⟨f1, f2, e, q1, q2⟩ => ⟨f1, f2, e, A.loc (fun i hi => h i (by rw [e]; exact List.mem_append_left _ hi)) q1, B.loc (fun i hi => h i (by rw [e]; exact List.mem_append_right _ hi)) q2⟩
  bd := fun ⟨f1, f2, e, q1, q2⟩ i hi => by
    rw [e] at hi
    rcases List.mem_append.mp hi with hi | hi
    · exact A.bd q1 i hi
    · exact B.bd q2 i hi
def Sts : List SP → SP
  | [] => Emp
  | A :: L => Star A (Sts L)
def Own (L : List SP) (s : Sto) : Prop := ∃ fp : List Nat, fp.Nodup ∧ (Sts L).P fp s
section
variable {A B : SP} {L L' R : List SP} {s : Sto}
theorem own_nil : Own [] s := ⟨[], List.nodup_nil, rfl⟩
theorem Sts.perm (h : L.Perm L') : ∀ {fp : List Nat}, (Sts L).P fp s → ∃ fp', fp'.Perm fp ∧ (Sts L').P fp' s := by
  induction h with
  | nil => exact fun q => ⟨_, List.Perm.refl _, q⟩
  | cons x _ ih =>
    rintro fp ⟨f1, f2, e, q1, q2⟩
    obtain ⟨f2', p, q⟩ := ih q2
    exact ⟨f1 ++ f2', by rw [e]; exact List.Perm.append_left _ p, f1, f2', rfl, q1, q⟩
  | swap x y l =>
    rintro fp ⟨f1, f2, e, q1, f3, f4, e2, q2, q3⟩
    refine ⟨f3 ++ (f1 ++ f4), ?_, f3, f1 ++ f4, rfl, q2, f1, f4, rfl, q1, q3⟩
    rw [e, e2, ← List.append_assoc, ← List.append_assoc]
    exact List.Perm.append_right _ List.perm_append_comm
  | trans _ _ ih1 ih2 =>
    intro fp q
    obtain ⟨f1, p1, q1⟩ := ih1 q
    obtain ⟨f2, p2, q2⟩ := ih2 q1
    exact ⟨f2, p2.trans p1, q2⟩
theorem Own.perm (o : Own L s) (h : L.Perm L') : Own L' s := by
  obtain ⟨fp, nd, q⟩ := o
  obtain ⟨fp', p, q'⟩ := Sts.perm h q
  exact ⟨fp', p.nodup_iff.mpr nd, q'⟩
theorem perm_push {α : Type} (a : α) : ∀ (L : List α) (k : Nat), k ≤ L.length → (a :: L).Perm (L.insertIdx k a)
  | L, 0, _ => List.Perm.refl _
  | b :: L, k + 1, h => (List.Perm.swap _ _ _).trans ((perm_push a L k (by simpa using h)).cons b)
/-- the front goes to a place -/
theorem Own.push (k : Nat) (o : Own (A :: L) s) (h : k ≤ L.length := by decide) : Own (L.insertIdx k A) s := o.perm (perm_push A L k h)
theorem Own.drop (o : Own (A :: L) s) : Own L s := by
  obtain ⟨fp, nd, f1, f2, e, q1, q2⟩ := o
  rw [e] at nd
  exact ⟨f2, (List.nodup_append.mp nd).2.1, q2⟩
theorem Own.get {i : Nat} {m : Mo} (o : Own (At i m :: L) s) : s[i]? = some m := by
  obtain ⟨fp, nd, f1, f2, e, q1, q2⟩ := o
  exact q1.2
theorem Own.lt {i : Nat} {m : Mo} (o : Own (At i m :: L) s) : i < s.length := (List.getElem?_eq_some_iff.mp o.get).1
theorem Own.set {i : Nat} {m : Mo} (o : Own (At i m :: L) s) (m' : Mo) : Own (At i m' :: L) (s.set i m') := by
  have hl := o.lt
  obtain ⟨fp, nd, f1, f2, e, ⟨q1, q3⟩, q2⟩ := o
  refine ⟨fp, nd, f1, f2, e, ⟨q1, List.getElem?_set_self hl⟩, (Sts L).loc (fun j hj => ?_) q2⟩
  rw [e, q1] at nd
  refine List.getElem?_set_ne fun z => ?_
  subst z
  exact (List.nodup_append.mp nd).2.2 i (List.mem_singleton_self _) i hj rfl
theorem Own.app (o : Own L s) (m : List Mo) : Own L (s ++ m) := by
  obtain ⟨fp, nd, q⟩ := o
  exact ⟨fp, nd, (Sts L).loc (fun i hi => List.getElem?_append_left ((Sts L).bd q i hi)) q⟩
theorem Own.new (o : Own L s) (m : Mo) : Own (At s.length m :: L) (s ++ [m]) := by
  have o2 := o
  obtain ⟨fp, nd, q⟩ := o
  refine ⟨[s.length] ++ fp, ?_, [s.length], fp, rfl, ⟨rfl, by simp⟩, (Sts L).loc (fun i hi => List.getElem?_append_left ((Sts L).bd q i hi)) q⟩
  refine List.nodup_append.mpr ⟨by simp, nd, fun a ha b hb => ?_⟩
  rw [List.mem_singleton] at ha
  have := (Sts L).bd q b hb
  omega
theorem own_ex {α : Type} {f : α → SP} : Own (Exi f :: L) s ↔ ∃ a, Own (f a :: L) s :=
  ⟨fun ⟨fp, nd, f1, f2, e, ⟨a, q1⟩, q2⟩ => ⟨a, fp, nd, f1, f2, e, q1, q2⟩, fun ⟨a, fp, nd, f1, f2, e, q1, q2⟩ => ⟨fp, nd, f1, f2, e, ⟨a, q1⟩, q2⟩⟩
theorem own_pu {p : Prop} : Own (Pu p :: L) s ↔ p ∧ Own L s :=
  ⟨fun ⟨fp, nd, f1, f2, e, ⟨e1, q1⟩, q2⟩ => ⟨q1, fp, nd, by rw [e, e1]; exact q2⟩, fun ⟨q1, fp, nd, q2⟩ => ⟨fp, nd, [], fp, rfl, ⟨rfl, q1⟩, q2⟩⟩
theorem sts_app : ∀ {L R : List SP} {fp : List Nat}, (Sts (L ++ R)).P fp s ↔ ∃ f1 f2, fp = f1 ++ f2 ∧ (Sts L).P f1 s ∧ (Sts R).P f2 s
  | [], R, fp => ⟨fun h => ⟨[], fp, rfl, rfl, h⟩, fun ⟨f1, f2, e, e1, h⟩ => by
      have e1 : f1 = [] := e1
      rw [e, e1]
      exact h⟩
  | A :: L, R, fp => ⟨fun ⟨f1, f2, e, q1, q2⟩ => by
      obtain ⟨f3, f4, e2, q3, q4⟩ := sts_app.mp q2
      exact ⟨f1 ++ f3, f4, by rw [e, e2, List.append_assoc], ⟨f1, f3, rfl, q1, q3⟩, q4⟩, fun ⟨f1, f2, e, ⟨f3, f4, e2, q3, q4⟩, q2⟩ => ⟨f3, f4 ++ f2, by rw [e, e2, List.append_assoc], q3, sts_app.mpr ⟨f4, f2, rfl, q4, q2⟩⟩⟩
theorem own_sts : Own (Sts R :: L) s ↔ Own (R ++ L) s :=
  ⟨fun ⟨fp, nd, f1, f2, e, q1, q2⟩ => ⟨fp, nd, sts_app.mpr ⟨f1, f2, e, q1, q2⟩⟩, fun ⟨fp, nd, q⟩ => by
    obtain ⟨f1, f2, e, q1, q2⟩ := sts_app.mp q
    exact ⟨fp, nd, f1, f2, e, q1, q2⟩⟩
/-- one assertion for another -/
theorem Own.imp {A' : SP} (o : Own (A :: L) s) (h : ∀ fp, A.P fp s → A'.P fp s) : Own (A' :: L) s := by
  obtain ⟨fp, nd, f1, f2, e, q1, q2⟩ := o
  exact ⟨fp, nd, f1, f2, e, h _ q1, q2⟩
end
end Pd
namespace Pd
open PySem L2
/-! ### more evaluation rules -/
theorem dExt_obj {s : Sto} {i : Nat} {l m : List Dt} {y : Dt} (h : s[i]? = some (.lst l)) (hy : trkL s y = some m) (hz : l.length + m.length ≤ 1000000) : dExt (.obj i) y s = .ok .non (s.set i (.lst (l ++ m))) := by
  simp only [dExt, lstAt_obj h, hy]
  rw [if_pos (by rw [sizeLine_eq]; omega)]
theorem trkL_lst {s : Sto} {l : List Dt} : trkL s (.lst l) = some l := rfl
theorem trkL_obj {s : Sto} {i : Nat} {l : List Dt} (h : s[i]? = some (.lst l)) : trkL s (.obj i) = some l := by simp only [trkL, h]
theorem dApp_at {s : Sto} {i : Nat} {l : List Dt} {y : Dt} (h : s[i]? = some (.lst l)) (hz : l.length < 1000000) : dApp (.obj i) y s = .ok .non (s.set i (.lst (l ++ [y]))) := dApp_obj h (by rw [sizeLine_eq]; omega)
theorem dAdd_any {nw : List Dt → Sto → Out Dt} {x y : Dt} {l m : List Dt} {s : Sto} (hx : trkL s x = some l) (hy : trkL s y = some m) (h : l.length + m.length ≤ 1000000) : dAdd nw x y s = nw (l ++ m) s := by
  have hz : l.length + m.length ≤ sizeLine := by rw [sizeLine_eq]; omega
  cases x with
  | lst a =>
    have e : a = l := by simpa [trkL] using hx
    subst e
    simp only [dAdd, show trkL s (.lst a) = some a from rfl, hy, if_pos hz]
  | obj i =>
    simp only [dAdd, hx, hy, if_pos hz]
  | _ => simp [trkL] at hx
theorem valA_nil {κ α : Type} [DecidableEq κ] {j : κ} : valA ([] : List (κ × α)) j = none := rfl
theorem Own.mem {L : List SP} {s : Sto} {i : Nat} {m : Mo} (o : Own L s) (h : At i m ∈ L) : s[i]? = some m := by
  obtain ⟨a, b, e⟩ := List.append_of_mem h
  rw [e] at o
  exact (o.perm List.perm_middle).get
/-! ### lists that a def tells, of the store or not -/
def OrS (A B : SP) : SP where
  P := fun fp s => A.P fp s ∨ B.P fp s
  loc := fun h q => q.elim (fun q => .inl (A.loc h q)) fun q => .inr (B.loc h q)
  bd := fun q => q.elim (fun q => A.bd q) fun q => B.bd q
theorem own_or {A B : SP} {L : List SP} {s : Sto} : Own (OrS A B :: L) s ↔ Own (A :: L) s ∨ Own (B :: L) s :=
  ⟨fun ⟨fp, nd, f1, f2, e, q1, q2⟩ => q1.elim (fun q => .inl ⟨fp, nd, f1, f2, e, q, q2⟩) fun q => .inr ⟨fp, nd, f1, f2, e, q, q2⟩,
   fun h => h.elim (fun ⟨fp, nd, f1, f2, e, q, q2⟩ => ⟨fp, nd, f1, f2, e, .inl q, q2⟩) fun ⟨fp, nd, f1, f2, e, q, q2⟩ => ⟨fp, nd, f1, f2, e, .inr q, q2⟩⟩
def LsA (r : Dt) (l : List Dt) : SP := OrS (Pu (r = .lst l)) (Exi fun p => Sts [Pu (r = .obj p), At p (.lst l)])
theorem own_ls {r : Dt} {l : List Dt} {L : List SP} {s : Sto} : Own (LsA r l :: L) s ↔ (r = .lst l ∧ Own L s) ∨ ∃ p, r = .obj p ∧ Own (At p (.lst l) :: L) s := by
  unfold LsA
  simp only [own_or, own_pu, own_ex, own_sts]
  constructor
  · rintro (h | ⟨p, h⟩)
    · exact .inl h
    · obtain ⟨e, h⟩ := own_pu.mp h
      exact .inr ⟨p, e, h⟩
  · rintro (h | ⟨p, e, h⟩)
    · exact .inl h
    · exact .inr ⟨p, own_pu.mpr ⟨e, h⟩⟩
theorem Own.trk {r : Dt} {l : List Dt} {L : List SP} {s : Sto} (o : Own (LsA r l :: L) s) : trkL s r = some l := by
  rcases own_ls.mp o with ⟨e, _⟩ | ⟨p, e, h⟩
  · rw [e]; rfl
  · rw [e]; exact trkL_obj h.get
theorem zeros_app (n : Nat) : List.replicate n (Dt.int 0) ++ [.int 0] = List.replicate (n + 1) (.int 0) := by rw [List.replicate_succ']
abbrev zs (n : Nat) : Mo := .lst (List.replicate n (.int 0))
/-- the town, at most so many draws -/
def Tw (t N : Nat) : SP := Exi fun n => Sts [Pu (n ≤ N), At t (zs n)]
theorem own_tw {t N : Nat} {R : List SP} {s : Sto} : Own (Tw t N :: R) s ↔ ∃ n, n ≤ N ∧ Own (At t (zs n) :: R) s := by
  unfold Tw
  simp only [own_ex, own_sts, List.cons_append, List.nil_append, own_pu]
theorem Own.more {t N M : Nat} {R : List SP} {s : Sto} (o : Own (Tw t N :: R) s) (h : N ≤ M) : Own (Tw t M :: R) s := by
  obtain ⟨n, hn, o⟩ := own_tw.mp o
  exact own_tw.mpr ⟨n, by omega, o⟩
/-! ### dicts with written keys -/
theorem dget_of {s : Sto} {j : Nat} {kvs : List (Key × Dt)} {k : Str} {v : Dt} (h : s[j]? = some (.dic kvs)) (hv : valA kvs (Sum.inr k) = some v) : dDget (.obj j) (.str k) s = .ok v s := by
  simp only [dDget, dgetD, h, keyD, Option.map_some, hv]
@[simp] theorem ev_dput {fo fi fv : Ex} {env : En} {s : Sto} : sDput fo fi fv env s = sBnd (fv env) env (fun v => sBnd (fo env) env fun x => sBnd (fi env) env fun y s => match dputD s x y v with | some s' => .fl (.nx env) s' | none => .bad) s := rfl
/-! ### dicts walked -/
@[simp] theorem ev_keysL {f : Ex} {env : En} {s : Sto} : iKeysL f env s = bnd (β := List Dt × (Sto → Prop)) (f env) (fun d s => match d with
  | .obj i => match s[i]? with
    | some (.dicL kvs) => .ok (kvs.map fun kv => keyDt kv.1, fun s' => s'[i]? = some (.dicL kvs)) s
    | some (.ditL kvs) => if kvs.all (fun kv => decide (kv.1.length ≤ 1000)) = true then .ok (kvs.map fun kv => keysDt kv.1, fun s' => s'[i]? = some (.ditL kvs)) s else .bad
    | _ => .bad
  | _ => .bad) s := rfl
theorem ev_dnewK {env : En} {s : Sto} : eDnewK env s = .ok (.obj s.length) (s ++ [.dic []]) := rfl
theorem ev_dnewT {env : En} {s : Sto} : eDnewT env s = .ok (.obj s.length) (s ++ [.dit []]) := rfl
/-! ints sorted -/
theorem dpts_all {l : List Dt} {n : Nat} (h : ∀ d ∈ l, dpt d = some n) : ∃ m, dpts l = some m ∧ m ≤ n := by
  induction l with
  | nil => exact ⟨0, rfl, Nat.zero_le _⟩
  | cons d l ih =>
    obtain ⟨m, h1, h2⟩ := ih fun x hx => h x (List.mem_cons_of_mem _ hx)
    refine ⟨max n m, ?_, by omega⟩
    simp only [dpts, h d List.mem_cons_self, h1]
theorem dNe_lst {l : List Dt} {n : Nat} {s : Sto} (h : ∀ d ∈ l, dpt d = some n) (hn : n ≤ 60) : dEq (.lst l) (.lst l) s = .ok (.bl true) s ∧ dNe (.lst l) (.lst l) s = .ok (.bl false) s := by
  obtain ⟨m, h1, h2⟩ := dpts_all h
  exact dEq_self (n := m + 1) (by simp only [dpt, h1, Option.map_some]) (by omega)
end Pd
/-! Parts found by a search; runs by steps. -/
namespace Pd
open PySem L2
section
variable {A B : SP} {L L1 L' R : List SP} {s : Sto}
inductive Tk : List SP → SP → List SP → Prop
  | hd {A : SP} {L : List SP} : Tk (A :: L) A L
  | tl {A B : SP} {L L1 : List SP} (h : Tk L A L1) : Tk (B :: L) A (B :: L1)
theorem Tk.perm {A : SP} : ∀ {L L1 : List SP}, Tk L A L1 → L.Perm (A :: L1)
  | _, _, .hd => List.Perm.refl _
  | _, _, .tl h => (h.perm.cons _).trans (List.Perm.swap _ _ _)
theorem Own.tk (o : Own L s) (h : Tk L A L1) : Own (A :: L1) s := o.perm h.perm
inductive Pm : List SP → List SP → Prop
  | rfl {L : List SP} : Pm L L
  | cons {A : SP} {L L1 L' : List SP} (h : Tk L A L1) (k : Pm L1 L') : Pm L (A :: L')
  | skip {B : SP} {L L' : List SP} (k : Pm L L') : Pm (B :: L) L'
theorem Pm.ex : ∀ {L L' : List SP}, Pm L L' → ∃ X, L.Perm (X ++ L')
  | _, _, .rfl => ⟨[], List.Perm.refl _⟩
  | _, _, .cons (A := A) h k => by
    obtain ⟨X, p⟩ := k.ex
    exact ⟨X, h.perm.trans ((p.cons _).trans List.perm_middle.symm)⟩
  | _, _, .skip (B := B) k => by
    obtain ⟨X, p⟩ := k.ex
    exact ⟨B :: X, p.cons _⟩
theorem Own.dropL : ∀ {X : List SP}, Own (X ++ L) s → Own L s
  | [], o => o
  | A :: X, o => Own.dropL (X := X) (Own.drop o)
theorem Own.pm (o : Own L s) (h : Pm L L') : Own L' s := by
  obtain ⟨X, p⟩ := h.ex
  exact (o.perm p).dropL
theorem Own.at_ {i : Nat} {m : Mo} (o : Own L s) (h : Tk L (At i m) L1) : s[i]? = some m := (o.tk h).get
end
/-! ### what stands at a place, for simp -/
section
variable {s : Sto} {i c : Nat}
theorem insD_at : insD s c (.obj i) = (match s[i]? with
    | some (.ins c' ds) => if c' = c then some (i, ds) else none
    | _ => none) := rfl
theorem isLst_at : isLst s (.obj i) = (match s[i]? with
    | some (.lst l) => some l
    | _ => none).isSome := rfl
theorem asL_at : asL s (.obj i) = (match s[i]? with
    | some (.lst l) => some l
    | _ => none) := rfl
theorem asQ_at : asQ s (.obj i) = (match s[i]? with
    | some (.lst l) => some l
    | _ => none) := rfl
theorem lstAt_at : lstAt s (.obj i) = (match s[i]? with
    | some (.lst l) => some (i, l)
    | _ => none) := rfl
theorem trkL_at : trkL s (.obj i) = (match s[i]? with
    | some (.lst l) => some l
    | _ => none) := rfl
theorem truD_atS : truD s (.obj i) = (match s[i]? with
    | some (.lst l) => some (!l.isEmpty)
    | some (.dic kvs) => some (!kvs.isEmpty)
    | _ => none) := rfl
theorem dLen_at : dLen (.obj i) s = ofO s ((match s[i]? with
    | some (.lst l) => some l.length
    | some (.dic kvs) => some kvs.length
    | some (.dit kvs) => some kvs.length
    | _ => none).map fun (n : Nat) => .int n) := by
  unfold dLen lenD
  rfl
theorem dIx_at {k : Int} : dIx (.obj i) (.int k) s = ofO s ((asQ s (.obj i)).bind fun l => atI l k) := rfl
theorem isDic_at : isDic s (.obj i) = (match s[i]? with
    | some (.dic _) => true
    | some (.dit _) => true
    | some (.dicL _) => true
    | some (.ditL _) => true
    | _ => false) := by unfold isDic; rfl
theorem setFD_at {k : Nat} {d y : Dt} : setFD s c k d y = (insD s c d).bind fun p => if k ≤ p.2.length then some (s.set p.1 (.ins c (putI k y p.2))) else none := rfl
end
theorem nc_lit (n : Nat) : ((no_index (OfNat.ofNat n) : Nat) : Int) = OfNat.ofNat n := rfl
theorem ofS_beq (a b : String) : (Str.ofString a == Str.ofString b) = (a == b) := by
  rw [Bool.eq_iff_iff, beq_iff_eq, beq_iff_eq]
  constructor
  · intro h
    rw [Str.ofString_eq_toList, Str.ofString_eq_toList] at h
    have h2 : a.toList.map Char.toNat = b.toList.map Char.toNat := by
      have := congrArg (fun x : Str => x.cps.toList) h
      simpa using this
    have h3 : a.toList = b.toList := List.map_inj_right (fun x y e => Char.toNat_inj.mp e) |>.mp h2
    exact String.toList_injective h3
  · intro h; rw [h]
theorem dIn_tints {s : Sto} {x : Int} {a : List Int} : dIn (.int x) (.tup (a.map .int)) s = .ok (.bl (a.contains x)) s := by
  have hf : (a.map Dt.int).all flatD = true := by simp [flatD]
  have he : ((a.map Dt.int).any fun e => feq e (.int x)) = a.contains x := by
    rw [List.any_map, Bool.eq_iff_iff, List.any_eq_true]
    simp [feq]
  simp only [dIn, inB, asQ_tup, hf, he]
  rfl
/-- a text in a tuple of texts -/
theorem dIn_ttxts {s : Sto} {x : Str} {a : List Str} : dIn (.str x) (.tup (a.map .str)) s = .ok (.bl (a.any fun e => e == x)) s := by
  have hf : (a.map Dt.str).all flatD = true := by simp [flatD]
  have he : ((a.map Dt.str).any fun e => feq e (.str x)) = a.any fun e => e == x := by
    rw [List.any_map]
    rfl
  simp only [dIn, inB, asQ_tup, hf, he]
  rfl
theorem dIn_t2 {s : Sto} {x a b : Str} : dIn (.str x) (.tup [.str a, .str b]) s = .ok (.bl (a == x || b == x)) s := by
  have := dIn_ttxts (s := s) (x := x) (a := [a, b])
  simpa using this
theorem dIn_t3 {s : Sto} {x a b c : Str} : dIn (.str x) (.tup [.str a, .str b, .str c]) s = .ok (.bl (a == x || (b == x || c == x))) s := by
  have := dIn_ttxts (s := s) (x := x) (a := [a, b, c])
  simpa using this
/-! ### dicts with written keys, for simp -/
theorem dgetD_at {s : Sto} {i : Nat} {y : Dt} : dgetD s (.obj i) y = (match s[i]? with
    | some (.dic kvs) => (keyD y).map (valA kvs)
    | some (.dicL kvs) => (keyD y).map (valA kvs)
    | some (.dit kvs) => (keysD y).map (valA kvs)
    | some (.ditL kvs) => (keysD y).map (valA kvs)
    | _ => none) := rfl
theorem dputD_at {s : Sto} {i : Nat} {y v : Dt} : dputD s (.obj i) y v = (match s[i]? with
    | some (.dic kvs) => (keyD y).bind fun k => if kvs.length < sizeLine then some (s.set i (.dic (putA kvs k v))) else none
    | some (.dit kvs) => (keysD y).bind fun k => if kvs.length < sizeLine then some (s.set i (.dit (putA kvs k v))) else none
    | _ => none) := rfl
theorem keyD_str {x : Str} : keyD (.str x) = some (Sum.inr x) := rfl
theorem keyD_int {x : Int} : keyD (.int x) = some (Sum.inl x) := rfl
theorem valA_w {α : Type} {a b : String} {v : α} {r : List (Key × α)} : valA ((Sum.inr (Str.ofString a), v) :: r) (Sum.inr (Str.ofString b)) = if (a == b) = true then some v else valA r (Sum.inr (Str.ofString b)) := by
  by_cases h : a = b
  · subst h; simp [valA]
  · have h2 : (Sum.inr (Str.ofString a) : Key) ≠ Sum.inr (Str.ofString b) := fun z => by
      have := ofS_beq a b
      rw [Sum.inr.inj z] at this
      simp at this
      exact h this
    have h3 : (a == b) = false := by simpa using h
    rw [h3]
    simp [valA, h2]
theorem putA_w {α : Type} {a b : String} {v w : α} {r : List (Key × α)} (hn : valA r (Sum.inr (Str.ofString a)) = none) : putA ((Sum.inr (Str.ofString a), v) :: r) (Sum.inr (Str.ofString b)) w = if (a == b) = true then (Sum.inr (Str.ofString a), w) :: r else (Sum.inr (Str.ofString a), v) :: putA r (Sum.inr (Str.ofString b)) w := by
  have hk : ∀ x ∈ r, x.1 ≠ Sum.inr (Str.ofString a) := fun x hx e => by
    unfold valA at hn
    rw [Option.map_eq_none_iff, List.find?_eq_none] at hn
    exact hn x hx (by simpa using e)
  by_cases h : a = b
  · subst h
    have e2 : r.map (fun kv => if kv.1 = Sum.inr (Str.ofString a) then (kv.1, w) else kv) = r := by
      conv => rhs; rw [← List.map_id r]
      apply List.map_congr_left
      intro x hx
      rw [if_neg (hk x hx)]
      rfl
    simp only [putA, List.any_cons, decide_true, Bool.true_or, if_true, List.map_cons, e2, beq_self_eq_true]
  · have h2 : (Sum.inr (Str.ofString a) : Key) ≠ Sum.inr (Str.ofString b) := fun z => by
      have := ofS_beq a b
      rw [Sum.inr.inj z] at this
      simp at this
      exact h this
    have h3 : (a == b) = false := by simpa using h
    rw [h3]
    unfold putA
    simp only [List.any_cons, h2, decide_false, Bool.false_or, List.map_cons, if_false, Bool.false_eq_true]
    split <;> rfl
theorem putA_nilw {α : Type} {k : Key} {w : α} : putA ([] : List (Key × α)) k w = [(k, w)] := rfl
theorem sz_1 : (1 < sizeLine) = True := by rw [sizeLine_eq]; decide
theorem sz_2 : (2 < sizeLine) = True := by rw [sizeLine_eq]; decide
theorem sz_3 : (3 < sizeLine) = True := by rw [sizeLine_eq]; decide
theorem sz_4 : (4 < sizeLine) = True := by rw [sizeLine_eq]; decide
theorem sz_5 : (5 < sizeLine) = True := by rw [sizeLine_eq]; decide
theorem sz_6 : (6 < sizeLine) = True := by rw [sizeLine_eq]; decide
theorem sz_7 : (7 < sizeLine) = True := by rw [sizeLine_eq]; decide
theorem sz_8 : (8 < sizeLine) = True := by rw [sizeLine_eq]; decide
theorem sz_9 : (9 < sizeLine) = True := by rw [sizeLine_eq]; decide
theorem szs {n : Nat} (h : n ≤ 1000000) : n ≤ sizeLine := by rw [sizeLine_eq]; omega
theorem dDget_def {x y : Dt} {s : Sto} : dDget x y s = (match dgetD s x y with
  | some (some d) => .ok d s
  | _ => .bad) := rfl
/-! ### runs by steps -/
def WO {α : Type} (o : Out α) (Q : α → Sto → Prop) (X : Nat → Sto → Prop) : Prop := match o with
  | .ok d s => Q d s
  | .exc c s => X c s
  | .bad => False
structure Ks where
  nx : En → Sto → Prop
  rt : Dt → Sto → Prop
  bk : En → Sto → Prop
  ct : En → Sto → Prop
  ex : Nat → En → Sto → Prop
def KR (K : Ks) : Res → Prop
  | .fl (.nx e) s => K.nx e s
  | .fl (.rt d) s => K.rt d s
  | .fl (.bk e) s => K.bk e s
  | .fl (.ct e) s => K.ct e s
  | .exc c e s => K.ex c e s
  | .bad => False
def WS (f : Sx) (K : Ks) (env : En) (s : Sto) : Prop := KR K (f env s)
def WE (f : Ex) (env : En) (s : Sto) (Q : Dt → Sto → Prop) (X : Nat → Sto → Prop) : Prop := WO (f env s) Q X
def WT (f : Tx) (env : En) (s : Sto) (Q : Bool → Sto → Prop) (X : Nat → Sto → Prop) : Prop := WO (f env s) Q X
def noX : Nat → Sto → Prop := fun _ _ => False
theorem wo_iff {α : Type} {o : Out α} {Q : α → Sto → Prop} (h : WO o Q noX) : ∃ d s, o = .ok d s ∧ Q d s := by
  cases o with
  | ok d s => exact ⟨d, s, rfl, h⟩
  | exc c s => exact h.elim
  | bad => exact h.elim
theorem wo_of {α : Type} {o : Out α} {Q : α → Sto → Prop} {X : Nat → Sto → Prop} {d : α} {s : Sto} (e : o = .ok d s) (h : Q d s) : WO o Q X := by rw [e]; exact h
theorem wo_mono {α : Type} {o : Out α} {Q Q' : α → Sto → Prop} {X X' : Nat → Sto → Prop} (h : WO o Q X) (hq : ∀ d s, Q d s → Q' d s) (hx : ∀ c s, X c s → X' c s) : WO o Q' X' := by
  cases o with
  | ok d s => exact hq _ _ h
  | exc c s => exact hx _ _ h
  | bad => exact h.elim
section
variable {f g : Sx} {K : Ks} {env e : En} {s s1 : Sto} {d : Dt} {fe : Ex} {ft : Tx} {Q : Dt → Sto → Prop} {X : Nat → Sto → Prop}
theorem ws_seq (h : WS f ⟨fun e s => WS g K e s, K.rt, K.bk, K.ct, K.ex⟩ env s) : WS (sSeq f g) K env s := by
  unfold WS at h ⊢
  simp only [sSeq]
  cases e : f env s with
  | fl fl s' =>
    rw [e] at h
    cases fl <;> exact h
  | exc c e' s' => rw [e] at h; exact h
  | bad => rw [e] at h; exact h
theorem ws_step (h : f env s = .fl (.nx e) s1) (k : WS g K e s1) : WS (sSeq f g) K env s := by
  unfold WS at k ⊢
  simp only [sSeq, h]
  exact k
theorem ws_out (h : f env s = .fl (.rt d) s1) (k : K.rt d s1) : WS (sSeq f g) K env s := by
  unfold WS
  simp only [sSeq, h]
  exact k
theorem ws_nx (h : f env s = .fl (.nx e) s1) (k : K.nx e s1) : WS f K env s := by unfold WS; rw [h]; exact k
theorem ws_rt (h : f env s = .fl (.rt d) s1) (k : K.rt d s1) : WS f K env s := by unfold WS; rw [h]; exact k
theorem ws_ex {c : Nat} (h : f env s = .exc c e s1) (k : K.ex c e s1) : WS f K env s := by unfold WS; rw [h]; exact k
theorem ws_mono {K' : Ks} (h : WS f K env s) (h1 : ∀ e s, K.nx e s → K'.nx e s) (h2 : ∀ e s, K.rt e s → K'.rt e s) (h3 : ∀ e s, K.bk e s → K'.bk e s) (h4 : ∀ e s, K.ct e s → K'.ct e s) (h5 : ∀ c e s, K.ex c e s → K'.ex c e s) : WS f K' env s := by
  unfold WS at h ⊢
  cases e : f env s with
  | fl fl s' =>
    rw [e] at h
    cases fl
    · exact h1 _ _ h
    · exact h2 _ _ h
    · exact h3 _ _ h
    · exact h4 _ _ h
  | exc c e' s' => rw [e] at h; exact h5 _ _ _ h
  | bad => rw [e] at h; exact h
/-- a def's run -/
theorem wf_fn {n : Nat} {ds : List Dt} (h : WS f ⟨fun _ s => Q .non s, Q, fun _ _ => False, fun _ _ => False, fun c _ s => X c s⟩ (ds.map some ++ List.replicate (n - ds.length) none) s) : WO (fnOf n f ds s) Q X := by
  unfold WS at h
  unfold fnOf
  cases e : f (ds.map some ++ List.replicate (n - ds.length) none) s with
  | fl fl s' =>
    rw [e] at h
    cases fl
    · exact h
    · exact h
    · exact h.elim
    · exact h.elim
  | exc c e' s' => rw [e] at h; exact h
  | bad => rw [e] at h; exact h
/-! expressions -/
theorem we_ok (h : fe env s = .ok d s1) (k : Q d s1) : WE fe env s Q X := by unfold WE; rw [h]; exact k
theorem wt_ok {b : Bool} {Q : Bool → Sto → Prop} (h : ft env s = .ok b s1) (k : Q b s1) : WT ft env s Q X := by unfold WT; rw [h]; exact k
theorem wo_bnd {α β : Type} {m : Sto → Out α} {k : α → Sto → Out β} {Q : β → Sto → Prop} (h : WO (m s) (fun a s' => WO (k a s') Q X) X) : WO (bnd m k s) Q X := by
  unfold bnd
  cases e : m s with
  | ok a s' => rw [e] at h; exact h
  | exc c s' => rw [e] at h; exact h
  | bad => rw [e] at h; exact h
theorem we_op {op : Dt → Dt → Sto → Out Dt} {fb : Ex} (h : WE fe env s (fun x s' => WE fb env s' (fun y s' => WO (op x y s') Q X) X) X) : WE (eOp op fe fb) env s Q X := wo_bnd (wo_mono h (fun _ _ k => wo_bnd k) fun _ _ k => k)
theorem we_if {fa fb : Ex} (h : WT ft env s (fun c s' => if c = true then WE fa env s' Q X else WE fb env s' Q X) X) : WE (eIf ft fa fb) env s Q X := wo_bnd (wo_mono h (fun d s' k => by cases d <;> exact k) fun _ _ k => k)
theorem wt_not {Q : Bool → Sto → Prop} (h : WT ft env s (fun c s' => Q (!c) s') X) : WT (tNot ft) env s Q X := wo_bnd h
/-- several -/
def WA (fs : List Ex) (env : En) (s : Sto) (Q : List Dt → Sto → Prop) (X : Nat → Sto → Prop) : Prop := WO (evs fs env s) Q X
theorem wa_nil {Q : List Dt → Sto → Prop} (h : Q [] s) : WA [] env s Q X := h
theorem wa_cons {fs : List Ex} {Q : List Dt → Sto → Prop} (h : WE fe env s (fun d s' => WA fs env s' (fun ds s'' => Q (d :: ds) s'') X) X) : WA (fe :: fs) env s Q X := by
  unfold WA
  rw [evs_cons]
  exact wo_bnd (wo_mono h (fun d s' k => wo_bnd k) fun _ _ k => k)
theorem wa_ok {fs : List Ex} {ds : List Dt} {Q : List Dt → Sto → Prop} (h : evs fs env s = .ok ds s1) (k : Q ds s1) : WA fs env s Q X := by unfold WA; rw [h]; exact k
theorem we_call {m : Fn} {fs : List Ex} (h : WA fs env s (fun ds s' => WO (m ds s') Q X) X) : WE (eCall m fs) env s Q X := wo_bnd h
theorem we_tup {fs : List Ex} (h : WA fs env s (fun ds s' => Q (.tup ds) s') X) : WE (eTup fs) env s Q X := wo_bnd h
/-! statements -/
theorem ws_asg {tg : Tg} (h : WE fe env s (fun d s' => ∃ e, tg d env s' = some e ∧ K.nx e s') (fun c s' => K.ex c env s')) : WS (sAsg fe tg) K env s := by
  unfold WS WE at *
  rw [ev_asg, sBnd_def]
  cases e : fe env s with
  | ok d s' =>
    rw [e] at h
    obtain ⟨e1, h1, h2⟩ := h
    simp only [h1]
    exact h2
  | exc c s' => rw [e] at h; exact h
  | bad => rw [e] at h; exact h
theorem ws_set {i : Nat} (h : WE fe env s (fun d s' => K.nx (env.set i (some d)) s') (fun c s' => K.ex c env s')) : WS (sAsg fe (gN i)) K env s := ws_asg (wo_mono h (fun _ _ k => ⟨_, rfl, k⟩) fun _ _ k => k)
theorem ws_ret (h : WE fe env s K.rt (fun c s' => K.ex c env s')) : WS (sRet fe) K env s := by
  unfold WS WE at *
  rw [ev_ret, sBnd_def]
  cases e : fe env s with
  | ok d s' => rw [e] at h; exact h
  | exc c s' => rw [e] at h; exact h
  | bad => rw [e] at h; exact h
theorem ws_expr (h : WE fe env s (fun _ s' => K.nx env s') (fun c s' => K.ex c env s')) : WS (sExpr fe) K env s := by
  unfold WS WE at *
  rw [ev_expr, sBnd_def]
  cases e : fe env s with
  | ok d s' => rw [e] at h; exact h
  | exc c s' => rw [e] at h; exact h
  | bad => rw [e] at h; exact h
theorem ws_if (h : WT ft env s (fun c s' => if c = true then WS f K env s' else WS g K env s') (fun c s' => K.ex c env s')) : WS (sIf ft f g) K env s := by
  unfold WS WT at *
  rw [ev_if, sBnd_def]
  cases e : ft env s with
  | ok d s' => rw [e] at h; cases d <;> exact h
  | exc c s' => rw [e] at h; exact h
  | bad => rw [e] at h; exact h
theorem ws_ifT (h : ft env s = .ok true s1) (k : WS f K env s1) : WS (sIf ft f g) K env s := ws_if (wt_ok h k)
theorem ws_ifF (h : ft env s = .ok false s1) (k : WS g K env s1) : WS (sIf ft f g) K env s := ws_if (wt_ok h k)
end
/-! ### loops -/
def setS : En → List Nat → List (Option Dt) → En
  | env, i :: is, x :: xs => setS (env.set i x) is xs
  | env, _, _ => env
theorem setS_cons {env : En} {i : Nat} {is : List Nat} {x : Option Dt} {xs : List (Option Dt)} : setS env (i :: is) (x :: xs) = setS (env.set i x) is xs := rfl
theorem setS_nil {env : En} {xs : List (Option Dt)} : setS env [] xs = env := by cases xs <;> rfl
theorem len1 {α : Type} {l : List α} (h : l.length = 1) : ∃ a, l = [a] := List.length_eq_one_iff.mp h
section
variable {α : Type} {tg : Tg} {body : Sx} {ok : Sto → Prop} {K : Ks} {env0 : En} {s s0 : Sto}
theorem ws_forGo {f : α → Dt} (J : List α → En → Sto → Prop) (all : List α) : ∀ (l pre : List α) (env : En) (s : Sto), all = pre ++ l → J pre env s →
    (∀ pre a post env s, all = pre ++ a :: post → J pre env s → ok s ∧ ∃ env1, tg (f a) env s = some env1 ∧ WS body ⟨J (pre ++ [a]), K.rt, K.nx, J (pre ++ [a]), K.ex⟩ env1 s) → (∀ env s, J all env s → ok s ∧ K.nx env s) →
    KR K (forGo tg body ok (l.map f) env s)
  | [], pre, env, s, ha, hj, hb, hd => by
    rw [List.append_nil] at ha
    subst ha
    obtain ⟨h1, h2⟩ := hd env s hj
    simp only [List.map_nil, forGo, if_pos h1]
    exact h2
  | a :: l, pre, env, s, ha, hj, hb, hd => by
    obtain ⟨h1, env1, h2, h3⟩ := hb pre a l env s ha hj
    simp only [List.map_cons, forGo, if_pos h1, h2]
    unfold WS at h3
    have ih := fun e s' h => ws_forGo J all l (pre ++ [a]) e s' (by rw [ha, List.append_assoc]; rfl) h hb hd
    cases e : body env1 s with
    | fl fl s' =>
      rw [e] at h3
      cases fl
      · exact ih _ _ h3
      · exact h3
      · exact h3
      · exact ih _ _ h3
    | exc c e' s' => rw [e] at h3; exact h3
    | bad => rw [e] at h3; exact h3
theorem ws_for {fi : Is} {f : α → Dt} (is : List Nat) (J : List α → List (Option Dt) → Sto → Prop) {l : List α}
    (hi : fi env0 s = .ok (l.map f, ok) s0) (he : setS env0 is (is.map fun i => (env0[i]?).getD none) = env0) (h0 : J [] (is.map fun i => (env0[i]?).getD none) s0)
    (hb : ∀ pre a post xs s, l = pre ++ a :: post → xs.length = is.length → J pre xs s → ok s ∧ ∃ env1, tg (f a) (setS env0 is xs) s = some env1 ∧ WS body ⟨fun e s' => ∃ ys, ys.length = is.length ∧ e = setS env0 is ys ∧ J (pre ++ [a]) ys s', K.rt, K.nx, fun e s' => ∃ ys, ys.length = is.length ∧ e = setS env0 is ys ∧ J (pre ++ [a]) ys s', K.ex⟩ env1 s)
    (hd : ∀ xs s, xs.length = is.length → J l xs s → ok s ∧ K.nx (setS env0 is xs) s) : WS (sFor fi tg body) K env0 s := by
  unfold WS
  rw [ev_for, sBnd_def, hi]
  refine ws_forGo (fun pre env s => ∃ ys, ys.length = is.length ∧ env = setS env0 is ys ∧ J pre ys s) l l [] env0 s0 rfl ⟨_, by rw [List.length_map], he.symm, h0⟩ ?_ ?_
  · rintro pre a post env s ha ⟨xs, hx, e, hj⟩
    subst e
    exact hb pre a post xs s ha hx hj
  · rintro env s ⟨xs, hx, e, hj⟩
    subst e
    exact hd xs s hx hj
/-- .. over the numbers below n -/
theorem ws_range {fa : Ex} {n : Nat} (is : List Nat) (J : Nat → List (Option Dt) → Sto → Prop)
    (hi : fa env0 s = .ok (.int (n : Int)) s0) (hn : n ≤ 16777216) (he : setS env0 is (is.map fun i => (env0[i]?).getD none) = env0) (h0 : J 0 (is.map fun i => (env0[i]?).getD none) s0)
    (hb : ∀ k xs s, k < n → xs.length = is.length → J k xs s → ∃ env1, tg (.int (k : Int)) (setS env0 is xs) s = some env1 ∧ WS body ⟨fun e s' => ∃ ys, ys.length = is.length ∧ e = setS env0 is ys ∧ J (k + 1) ys s', K.rt, K.nx, fun e s' => ∃ ys, ys.length = is.length ∧ e = setS env0 is ys ∧ J (k + 1) ys s', K.ex⟩ env1 s)
    (hd : ∀ xs s, xs.length = is.length → J n xs s → K.nx (setS env0 is xs) s) : WS (sFor (iRange fa) tg body) K env0 s := by
  have hi2 : (iRange fa) env0 s = .ok ((List.range n).map (fun (k : Nat) => Dt.int (k : Int)), fun _ => True) s0 := by
    rw [ev_iRange, bnd_def, hi]
    have hr : ((n : Int) ≤ 16777216 ∧ -(2 ^ 62) ≤ (n : Int)) := by omega
    simp only [hr, and_self, if_true, Int.toNat_natCast]
  refine ws_for (f := fun (k : Nat) => Dt.int (k : Int)) is (fun pre xs s => pre = List.range pre.length ∧ J pre.length xs s) hi2 he ⟨rfl, h0⟩ ?_ ?_
  · rintro pre a post xs s ha hx ⟨hp, hj⟩
    have hlen := congrArg List.length ha
    rw [List.length_range, List.length_append, List.length_cons] at hlen
    have ea : a = pre.length := by
      have z : (List.range n)[pre.length]? = some a := by rw [ha]; simp
      rw [List.getElem?_range (by omega)] at z
      exact (Option.some.inj z).symm
    subst ea
    obtain ⟨env1, h1, h2⟩ := hb pre.length xs s (by omega) hx hj
    have key : ∀ e s', (∃ ys : List (Option Dt), ys.length = is.length ∧ e = setS env0 is ys ∧ J (pre.length + 1) ys s') → ∃ ys : List (Option Dt), ys.length = is.length ∧ e = setS env0 is ys ∧ (pre ++ [pre.length] = List.range (pre ++ [pre.length]).length ∧ J (pre ++ [pre.length]).length ys s') := by
      rintro e s' ⟨ys, k1, k2, k3⟩
      refine ⟨ys, k1, k2, ?_, by rw [List.length_append]; exact k3⟩
      rw [List.length_append, List.length_singleton, List.range_succ, ← hp]
    exact ⟨trivial, env1, h1, ws_mono h2 key (fun _ _ k => k) (fun _ _ k => k) key fun _ _ _ k => k⟩
  · rintro xs s hx ⟨hp, hj⟩
    rw [List.length_range] at hj
    exact ⟨trivial, hd xs s hx hj⟩
theorem ws_while {t : Tx} {fuel : Nat} (is : List Nat) (J : Nat → List (Option Dt) → Sto → Prop) (n : Nat) (hf : n < fuel) (he : setS env0 is (is.map fun i => (env0[i]?).getD none) = env0) (h0 : J n (is.map fun i => (env0[i]?).getD none) s)
    (hb : ∀ n xs s, xs.length = is.length → J n xs s → WT t (setS env0 is xs) s (fun c s1 => if c = true then WS body ⟨fun e s' => ∃ m ys, m < n ∧ ys.length = is.length ∧ e = setS env0 is ys ∧ J m ys s', K.rt, K.nx, fun e s' => ∃ m ys, m < n ∧ ys.length = is.length ∧ e = setS env0 is ys ∧ J m ys s', K.ex⟩ (setS env0 is xs) s1 else K.nx (setS env0 is xs) s1) (fun c s' => K.ex c (setS env0 is xs) s')) : WS (whGo t body fuel) K env0 s := by
  have go : ∀ (fuel n : Nat) (xs : List (Option Dt)) (s : Sto), n < fuel → xs.length = is.length → J n xs s → WS (whGo t body fuel) K (setS env0 is xs) s := by
    intro fuel
    induction fuel with
    | zero => intro n xs s h; omega
    | succ fuel ih =>
      intro n xs s hn hx hj
      have h := hb n xs s hx hj
      unfold WS
      rw [whGo, sBnd_def]
      unfold WT at h
      cases e : t (setS env0 is xs) s with
      | ok c s1 =>
        rw [e] at h
        cases c with
        | false =>
          have h : K.nx (setS env0 is xs) s1 := h
          exact h
        | true =>
          have h : WS body _ (setS env0 is xs) s1 := h
          unfold WS at h
          show KR K (match body (setS env0 is xs) s1 with
            | .fl (.nx e) s' => whGo t body fuel e s'
            | .fl (.ct e) s' => whGo t body fuel e s'
            | .fl (.bk e) s' => .fl (.nx e) s'
            | .fl (.rt d) s' => .fl (.rt d) s'
            | .exc c e s' => .exc c e s'
            | .bad => .bad)
          cases e2 : body (setS env0 is xs) s1 with
          | fl fl s' =>
            rw [e2] at h
            cases fl
            · obtain ⟨m, ys, k1, k2, k3, k4⟩ := h
              subst k3
              exact ih m ys s' (by omega) k2 k4
            · exact h
            · exact h
            · obtain ⟨m, ys, k1, k2, k3, k4⟩ := h
              subst k3
              exact ih m ys s' (by omega) k2 k4
          | exc c e' s' => rw [e2] at h; exact h
          | bad => rw [e2] at h; exact h
      | exc c s' => rw [e] at h; exact h
      | bad => rw [e] at h; exact h
  have := go fuel n _ s hf (by rw [List.length_map]) h0
  rw [he] at this
  exact this
end
/-! ### comprehensions -/
end Pd
namespace Pd
open PySem L2
theorem fnOf_def {n : Nat} {f : Sx} {ds : List Dt} {s : Sto} : fnOf n f ds s = (match f (ds.map some ++ List.replicate (n - ds.length) none) s with
  | .fl (.rt d) s' => .ok d s'
  | .fl (.nx _) s' => .ok .non s'
  | .exc c _ s' => .exc c s'
  | _ => .bad) := rfl
theorem ev0R : type_of% (And.intro @fnOf_def <| And.intro @ev_seq <| And.intro @ev_asg <| And.intro @sBnd_def <| And.intro @ev_op <| And.intro @ev_un <| And.intro @bnd_def <| And.intro @ev_call <| And.intro @evs_cons <| And.intro @evs_nil <| And.intro @ev_var <| And.intro @ev_c <| And.intro @ev_if <| And.intro @ev_next <| And.intro @ev_expr <| And.intro @ev_tru <| And.intro @ev_bl <| And.intro @ev_and <| And.intro @ev_or <| And.intro @ev_not <| And.intro @ev_yes <| And.intro @ev_andE <| And.intro @ev_orE <| And.intro @ev_notE <| And.intro @ev_ifE <| And.intro @ev_chain <| And.intro @ofB_some <| And.intro @ofO_some <| And.intro @ofO_none <| And.intro @truD_non <| And.intro @truD_bl <| And.intro @truD_int <| And.intro @truD_str <| And.intro @truD_tup <| And.intro @truD_lst <| And.intro @truD_lsk <| And.intro @ev_tup <| And.intro @ev_lst <| And.intro @ev_nwF <| And.intro @ev_nwM <| And.intro @ev_meth <| And.intro @ev_make <| And.intro @ev_fld <| And.intro @ev_setF <| And.intro @ev_bm1 <| And.intro @asQ_tup <| And.intro @asQ_lst <| And.intro @asQ_lsk <| And.intro @asL_lst <| And.intro @asL_lsk <| And.intro @dLen_tup <| And.intro @dLen_lst <| And.intro @dLen_lsk <| And.intro @dLen_str <| And.intro @dIx_tup <| And.intro @dIx_lst <| And.intro @dIx_lsk <| And.intro @dIx_str <| And.intro @dAdd_int <| And.intro @dNeg_int <| And.intro @isN_def <| And.intro @notN_def <| And.intro @isNon_non <| And.intro @isNon_int <| And.intro @isNon_bl <| And.intro @isNon_str <| And.intro @isNon_tup <| And.intro @isNon_lst <| And.intro @isNon_obj <| And.intro @isNon_exc <| And.intro @dEq_int <| And.intro @dNe_int <| And.intro @dEq_str <| And.intro @dNe_str <| And.intro @dEq_bl <| And.intro @atI_zero <| And.intro @atI_one <| And.intro @atI_2 <| And.intro @atI_3 <| And.intro @atI_4 <| And.intro @atI_5 <| And.intro @atI_6 <| And.intro @atI_7 <| And.intro @atI_8 <| And.intro @atI_9 <| And.intro @atI_10 <| And.intro @atI_11 <| And.intro @atI_12 <| And.intro @atI_m1 <| And.intro @ev_gT <| And.intro @setAll_nil <| And.intro @setAll_cons <| And.intro @iOp_int <| And.intro @ev_gN <| And.intro @ev_ret <| And.intro @List.map_cons.{0, 0} <| And.intro @List.map_nil.{0, 0} <| And.intro @List.length_cons.{0} <| And.intro @List.length_nil.{0} <| And.intro @rep_zero <| And.intro @rep_succ <| And.intro @List.cons_append.{0} <| And.intro @List.nil_append.{0} <| And.intro @List.getElem?_cons_zero.{0} <| And.intro @List.getElem?_cons_succ.{0} <| And.intro @List.set_cons_zero.{0} <| And.intro @List.set_cons_succ.{0} <| And.intro @Nat.sub_self <| And.intro @Option.map_some.{0, 0} <| And.intro @Option.bind_some.{0, 0} <| And.intro @if_true.{1} <| And.intro @Bool.not_true <| And.intro @Bool.not_false <| And.intro @Bool.false_eq_true <| And.intro @if_false.{1} <| @decide_true) := And.intro @fnOf_def <| And.intro @ev_seq <| And.intro @ev_asg <| And.intro @sBnd_def <| And.intro @ev_op <| And.intro @ev_un <| And.intro @bnd_def <| And.intro @ev_call <| And.intro @evs_cons <| And.intro @evs_nil <| And.intro @ev_var <| And.intro @ev_c <| And.intro @ev_if <| And.intro @ev_next <| And.intro @ev_expr <| And.intro @ev_tru <| And.intro @ev_bl <| And.intro @ev_and <| And.intro @ev_or <| And.intro @ev_not <| And.intro @ev_yes <| And.intro @ev_andE <| And.intro @ev_orE <| And.intro @ev_notE <| And.intro @ev_ifE <| And.intro @ev_chain <| And.intro @ofB_some <| And.intro @ofO_some <| And.intro @ofO_none <| And.intro @truD_non <| And.intro @truD_bl <| And.intro @truD_int <| And.intro @truD_str <| And.intro @truD_tup <| And.intro @truD_lst <| And.intro @truD_lsk <| And.intro @ev_tup <| And.intro @ev_lst <| And.intro @ev_nwF <| And.intro @ev_nwM <| And.intro @ev_meth <| And.intro @ev_make <| And.intro @ev_fld <| And.intro @ev_setF <| And.intro @ev_bm1 <| And.intro @asQ_tup <| And.intro @asQ_lst <| And.intro @asQ_lsk <| And.intro @asL_lst <| And.intro @asL_lsk <| And.intro @dLen_tup <| And.intro @dLen_lst <| And.intro @dLen_lsk <| And.intro @dLen_str <| And.intro @dIx_tup <| And.intro @dIx_lst <| And.intro @dIx_lsk <| And.intro @dIx_str <| And.intro @dAdd_int <| And.intro @dNeg_int <| And.intro @isN_def <| And.intro @notN_def <| And.intro @isNon_non <| And.intro @isNon_int <| And.intro @isNon_bl <| And.intro @isNon_str <| And.intro @isNon_tup <| And.intro @isNon_lst <| And.intro @isNon_obj <| And.intro @isNon_exc <| And.intro @dEq_int <| And.intro @dNe_int <| And.intro @dEq_str <| And.intro @dNe_str <| And.intro @dEq_bl <| And.intro @atI_zero <| And.intro @atI_one <| And.intro @atI_2 <| And.intro @atI_3 <| And.intro @atI_4 <| And.intro @atI_5 <| And.intro @atI_6 <| And.intro @atI_7 <| And.intro @atI_8 <| And.intro @atI_9 <| And.intro @atI_10 <| And.intro @atI_11 <| And.intro @atI_12 <| And.intro @atI_m1 <| And.intro @ev_gT <| And.intro @setAll_nil <| And.intro @setAll_cons <| And.intro @iOp_int <| And.intro @ev_gN <| And.intro @ev_ret <| And.intro @List.map_cons.{0, 0} <| And.intro @List.map_nil.{0, 0} <| And.intro @List.length_cons.{0} <| And.intro @List.length_nil.{0} <| And.intro @rep_zero <| And.intro @rep_succ <| And.intro @List.cons_append.{0} <| And.intro @List.nil_append.{0} <| And.intro @List.getElem?_cons_zero.{0} <| And.intro @List.getElem?_cons_succ.{0} <| And.intro @List.set_cons_zero.{0} <| And.intro @List.set_cons_succ.{0} <| And.intro @Nat.sub_self <| And.intro @Option.map_some.{0, 0} <| And.intro @Option.bind_some.{0, 0} <| And.intro @if_true.{1} <| And.intro @Bool.not_true <| And.intro @Bool.not_false <| And.intro @Bool.false_eq_true <| And.intro @if_false.{1} <| @decide_true
theorem evR : type_of% (And.intro @fnOf_def <| And.intro @ev_seq <| And.intro @ev_asg <| And.intro @sBnd_def <| And.intro @ev_op <| And.intro @ev_un <| And.intro @bnd_def <| And.intro @ev_call <| And.intro @evs_cons <| And.intro @evs_nil <| And.intro @ev_var <| And.intro @ev_c <| And.intro @ev_if <| And.intro @ev_next <| And.intro @ev_expr <| And.intro @ev_tru <| And.intro @ev_bl <| And.intro @ev_and <| And.intro @ev_or <| And.intro @ev_not <| And.intro @ev_yes <| And.intro @ev_andE <| And.intro @ev_orE <| And.intro @ev_notE <| And.intro @ev_ifE <| And.intro @ev_chain <| And.intro @ofB_some <| And.intro @ofO_some <| And.intro @ofO_none <| And.intro @truD_non <| And.intro @truD_bl <| And.intro @truD_int <| And.intro @truD_str <| And.intro @truD_tup <| And.intro @truD_lst <| And.intro @truD_lsk <| And.intro @ev_tup <| And.intro @ev_lst <| And.intro @ev_nwF <| And.intro @ev_nwM <| And.intro @ev_meth <| And.intro @ev_make <| And.intro @ev_fld <| And.intro @ev_setF <| And.intro @ev_bm1 <| And.intro @asQ_tup <| And.intro @asQ_lst <| And.intro @asQ_lsk <| And.intro @asL_lst <| And.intro @asL_lsk <| And.intro @dLen_tup <| And.intro @dLen_lst <| And.intro @dLen_lsk <| And.intro @dLen_str <| And.intro @dIx_tup <| And.intro @dIx_lst <| And.intro @dIx_lsk <| And.intro @dIx_str <| And.intro @dAdd_int <| And.intro @dNeg_int <| And.intro @isN_def <| And.intro @notN_def <| And.intro @isNon_non <| And.intro @isNon_int <| And.intro @isNon_bl <| And.intro @isNon_str <| And.intro @isNon_tup <| And.intro @isNon_lst <| And.intro @isNon_obj <| And.intro @isNon_exc <| And.intro @dEq_int <| And.intro @dNe_int <| And.intro @dEq_str <| And.intro @dNe_str <| And.intro @dEq_bl <| And.intro @atI_zero <| And.intro @atI_one <| And.intro @atI_2 <| And.intro @atI_3 <| And.intro @atI_4 <| And.intro @atI_5 <| And.intro @atI_6 <| And.intro @atI_7 <| And.intro @atI_8 <| And.intro @atI_9 <| And.intro @atI_10 <| And.intro @atI_11 <| And.intro @atI_12 <| And.intro @atI_m1 <| And.intro @ev_gT <| And.intro @setAll_nil <| And.intro @setAll_cons <| And.intro @iOp_int <| And.intro @ev_gN <| And.intro @ev_ret <| And.intro @List.map_cons.{0, 0} <| And.intro @List.map_nil.{0, 0} <| And.intro @List.length_cons.{0} <| And.intro @List.length_nil.{0} <| And.intro @rep_zero <| And.intro @rep_succ <| And.intro @List.cons_append.{0} <| And.intro @List.nil_append.{0} <| And.intro @List.getElem?_cons_zero.{0} <| And.intro @List.getElem?_cons_succ.{0} <| And.intro @List.set_cons_zero.{0} <| And.intro @List.set_cons_succ.{0} <| And.intro @Nat.sub_self <| And.intro @Option.map_some.{0, 0} <| And.intro @Option.bind_some.{0, 0} <| And.intro @if_true.{1} <| And.intro @Bool.not_true <| And.intro @Bool.not_false <| And.intro @Bool.false_eq_true <| And.intro @if_false.{1} <| And.intro @decide_true <| And.intro @decide_false <| And.intro @beq_self_eq_true.{0} <| And.intro @eq_self.{1} <| And.intro @not_true_eq_false <| And.intro @not_false_eq_true <| And.intro @true_and <| And.intro @and_true <| And.intro @true_or <| And.intro @or_true <| And.intro @false_or <| And.intro @or_false <| And.intro @and_false <| And.intro @false_and <| And.intro @decide_eq_true_eq <| And.intro @Bool.true_and <| And.intro @Bool.and_true <| And.intro @Bool.false_and <| And.intro @Bool.and_false <| And.intro @Bool.true_or <| And.intro @Bool.or_true <| And.intro @Bool.false_or <| @Bool.or_false) := And.intro @fnOf_def <| And.intro @ev_seq <| And.intro @ev_asg <| And.intro @sBnd_def <| And.intro @ev_op <| And.intro @ev_un <| And.intro @bnd_def <| And.intro @ev_call <| And.intro @evs_cons <| And.intro @evs_nil <| And.intro @ev_var <| And.intro @ev_c <| And.intro @ev_if <| And.intro @ev_next <| And.intro @ev_expr <| And.intro @ev_tru <| And.intro @ev_bl <| And.intro @ev_and <| And.intro @ev_or <| And.intro @ev_not <| And.intro @ev_yes <| And.intro @ev_andE <| And.intro @ev_orE <| And.intro @ev_notE <| And.intro @ev_ifE <| And.intro @ev_chain <| And.intro @ofB_some <| And.intro @ofO_some <| And.intro @ofO_none <| And.intro @truD_non <| And.intro @truD_bl <| And.intro @truD_int <| And.intro @truD_str <| And.intro @truD_tup <| And.intro @truD_lst <| And.intro @truD_lsk <| And.intro @ev_tup <| And.intro @ev_lst <| And.intro @ev_nwF <| And.intro @ev_nwM <| And.intro @ev_meth <| And.intro @ev_make <| And.intro @ev_fld <| And.intro @ev_setF <| And.intro @ev_bm1 <| And.intro @asQ_tup <| And.intro @asQ_lst <| And.intro @asQ_lsk <| And.intro @asL_lst <| And.intro @asL_lsk <| And.intro @dLen_tup <| And.intro @dLen_lst <| And.intro @dLen_lsk <| And.intro @dLen_str <| And.intro @dIx_tup <| And.intro @dIx_lst <| And.intro @dIx_lsk <| And.intro @dIx_str <| And.intro @dAdd_int <| And.intro @dNeg_int <| And.intro @isN_def <| And.intro @notN_def <| And.intro @isNon_non <| And.intro @isNon_int <| And.intro @isNon_bl <| And.intro @isNon_str <| And.intro @isNon_tup <| And.intro @isNon_lst <| And.intro @isNon_obj <| And.intro @isNon_exc <| And.intro @dEq_int <| And.intro @dNe_int <| And.intro @dEq_str <| And.intro @dNe_str <| And.intro @dEq_bl <| And.intro @atI_zero <| And.intro @atI_one <| And.intro @atI_2 <| And.intro @atI_3 <| And.intro @atI_4 <| And.intro @atI_5 <| And.intro @atI_6 <| And.intro @atI_7 <| And.intro @atI_8 <| And.intro @atI_9 <| And.intro @atI_10 <| And.intro @atI_11 <| And.intro @atI_12 <| And.intro @atI_m1 <| And.intro @ev_gT <| And.intro @setAll_nil <| And.intro @setAll_cons <| And.intro @iOp_int <| And.intro @ev_gN <| And.intro @ev_ret <| And.intro @List.map_cons.{0, 0} <| And.intro @List.map_nil.{0, 0} <| And.intro @List.length_cons.{0} <| And.intro @List.length_nil.{0} <| And.intro @rep_zero <| And.intro @rep_succ <| And.intro @List.cons_append.{0} <| And.intro @List.nil_append.{0} <| And.intro @List.getElem?_cons_zero.{0} <| And.intro @List.getElem?_cons_succ.{0} <| And.intro @List.set_cons_zero.{0} <| And.intro @List.set_cons_succ.{0} <| And.intro @Nat.sub_self <| And.intro @Option.map_some.{0, 0} <| And.intro @Option.bind_some.{0, 0} <| And.intro @if_true.{1} <| And.intro @Bool.not_true <| And.intro @Bool.not_false <| And.intro @Bool.false_eq_true <| And.intro @if_false.{1} <| And.intro @decide_true <| And.intro @decide_false <| And.intro @beq_self_eq_true.{0} <| And.intro @eq_self.{1} <| And.intro @not_true_eq_false <| And.intro @not_false_eq_true <| And.intro @true_and <| And.intro @and_true <| And.intro @true_or <| And.intro @or_true <| And.intro @false_or <| And.intro @or_false <| And.intro @and_false <| And.intro @false_and <| And.intro @decide_eq_true_eq <| And.intro @Bool.true_and <| And.intro @Bool.and_true <| And.intro @Bool.false_and <| And.intro @Bool.and_false <| And.intro @Bool.true_or <| And.intro @Bool.or_true <| And.intro @Bool.false_or <| @Bool.or_false
theorem runR : type_of% (And.intro @fnOf_def <| And.intro @ev_seq <| And.intro @ev_asg <| And.intro @sBnd_def <| And.intro @ev_op <| And.intro @ev_un <| And.intro @bnd_def <| And.intro @ev_call <| And.intro @evs_cons <| And.intro @evs_nil <| And.intro @ev_var <| And.intro @ev_c <| And.intro @ev_if <| And.intro @ev_next <| And.intro @ev_expr <| And.intro @ev_tru <| And.intro @ev_bl <| And.intro @ev_and <| And.intro @ev_or <| And.intro @ev_not <| And.intro @ev_yes <| And.intro @ev_andE <| And.intro @ev_orE <| And.intro @ev_notE <| And.intro @ev_ifE <| And.intro @ev_chain <| And.intro @ofB_some <| And.intro @ofO_some <| And.intro @ofO_none <| And.intro @truD_non <| And.intro @truD_bl <| And.intro @truD_int <| And.intro @truD_str <| And.intro @truD_tup <| And.intro @truD_lst <| And.intro @truD_lsk <| And.intro @ev_tup <| And.intro @ev_lst <| And.intro @ev_nwF <| And.intro @ev_nwM <| And.intro @ev_meth <| And.intro @ev_make <| And.intro @ev_fld <| And.intro @ev_setF <| And.intro @ev_bm1 <| And.intro @asQ_tup <| And.intro @asQ_lst <| And.intro @asQ_lsk <| And.intro @asL_lst <| And.intro @asL_lsk <| And.intro @dLen_tup <| And.intro @dLen_lst <| And.intro @dLen_lsk <| And.intro @dLen_str <| And.intro @dIx_tup <| And.intro @dIx_lst <| And.intro @dIx_lsk <| And.intro @dIx_str <| And.intro @dAdd_int <| And.intro @dNeg_int <| And.intro @isN_def <| And.intro @notN_def <| And.intro @isNon_non <| And.intro @isNon_int <| And.intro @isNon_bl <| And.intro @isNon_str <| And.intro @isNon_tup <| And.intro @isNon_lst <| And.intro @isNon_obj <| And.intro @isNon_exc <| And.intro @dEq_int <| And.intro @dNe_int <| And.intro @dEq_str <| And.intro @dNe_str <| And.intro @dEq_bl <| And.intro @atI_zero <| And.intro @atI_one <| And.intro @atI_2 <| And.intro @atI_3 <| And.intro @atI_4 <| And.intro @atI_5 <| And.intro @atI_6 <| And.intro @atI_7 <| And.intro @atI_8 <| And.intro @atI_9 <| And.intro @atI_10 <| And.intro @atI_11 <| And.intro @atI_12 <| And.intro @atI_m1 <| And.intro @ev_gT <| And.intro @setAll_nil <| And.intro @setAll_cons <| And.intro @iOp_int <| And.intro @ev_gN <| And.intro @ev_ret <| And.intro @List.map_cons.{0, 0} <| And.intro @List.map_nil.{0, 0} <| And.intro @List.length_cons.{0} <| And.intro @List.length_nil.{0} <| And.intro @rep_zero <| And.intro @rep_succ <| And.intro @List.cons_append.{0} <| And.intro @List.nil_append.{0} <| And.intro @List.getElem?_cons_zero.{0} <| And.intro @List.getElem?_cons_succ.{0} <| And.intro @List.set_cons_zero.{0} <| And.intro @List.set_cons_succ.{0} <| And.intro @Nat.sub_self <| And.intro @Option.map_some.{0, 0} <| And.intro @Option.bind_some.{0, 0} <| And.intro @if_true.{1} <| And.intro @Bool.not_true <| And.intro @Bool.not_false <| And.intro @Bool.false_eq_true <| And.intro @if_false.{1} <| And.intro @decide_true <| And.intro @decide_false <| And.intro @beq_self_eq_true.{0} <| And.intro @eq_self.{1} <| And.intro @not_true_eq_false <| And.intro @not_false_eq_true <| And.intro @true_and <| And.intro @and_true <| And.intro @true_or <| And.intro @or_true <| And.intro @false_or <| And.intro @or_false <| And.intro @and_false <| And.intro @false_and <| And.intro @decide_eq_true_eq <| And.intro @Bool.true_and <| And.intro @Bool.and_true <| And.intro @Bool.false_and <| And.intro @Bool.and_false <| And.intro @Bool.true_or <| And.intro @Bool.or_true <| And.intro @Bool.false_or <| And.intro @Bool.or_false <| And.intro @insD_at <| And.intro @isLst_at <| And.intro @asL_at <| And.intro @asQ_at <| And.intro @lstAt_at <| And.intro @trkL_at <| And.intro @truD_atS <| And.intro @dLen_at <| And.intro @dIx_at <| And.intro @isDic_at <| And.intro @setFD_at <| And.intro @isStr_str <| And.intro @isLst_lst <| And.intro @Option.isSome_some.{0} <| And.intro @Option.isSome_none.{0} <| And.intro @Option.isSome_map.{0, 0} <| And.intro @ev_for <| And.intro @ev_lc <| And.intro @ev_iSeq <| And.intro @ev_iRange <| And.intro @ev_sl <| And.intro @evp_none <| And.intro @evp_some <| And.intro @dSl_tup <| And.intro @dSl_lst <| And.intro @wipeD_nil <| And.intro @wipeD_cons <| And.intro @ev_tryH <| And.intro @ev_setI <| And.intro @ev_raise <| And.intro @ev_dput <| And.intro @ev_dnewK <| And.intro @ev_dnewT <| And.intro @setS_cons <| And.intro @setS_nil <| And.intro @mkS_beq <| And.intro @mkS_len <| And.intro @dSplit_mk <| And.intro @signs_mk <| And.intro @List.isEmpty_nil.{0} <| And.intro @List.isEmpty_cons.{0} <| And.intro @List.length_map.{0, 0} <| And.intro @ofS_beq <| And.intro @dIn_t2 <| And.intro @dIn_t3 <| And.intro @dDget_def <| And.intro @dgetD_at <| And.intro @dputD_at <| And.intro @keyD_str <| And.intro @keyD_int <| And.intro @valA_w <| And.intro @valA_nil <| And.intro @putA_w <| And.intro @putA_nilw <| And.intro @sz_1 <| And.intro @sz_2 <| And.intro @sz_3 <| And.intro @sz_4 <| And.intro @sz_5 <| And.intro @sz_6 <| And.intro @sz_7 <| And.intro @sz_8 <| And.intro @sz_9 <| And.intro @nc_lit <| And.intro @Int.natCast_one <| @Int.natCast_zero) := And.intro @fnOf_def <| And.intro @ev_seq <| And.intro @ev_asg <| And.intro @sBnd_def <| And.intro @ev_op <| And.intro @ev_un <| And.intro @bnd_def <| And.intro @ev_call <| And.intro @evs_cons <| And.intro @evs_nil <| And.intro @ev_var <| And.intro @ev_c <| And.intro @ev_if <| And.intro @ev_next <| And.intro @ev_expr <| And.intro @ev_tru <| And.intro @ev_bl <| And.intro @ev_and <| And.intro @ev_or <| And.intro @ev_not <| And.intro @ev_yes <| And.intro @ev_andE <| And.intro @ev_orE <| And.intro @ev_notE <| And.intro @ev_ifE <| And.intro @ev_chain <| And.intro @ofB_some <| And.intro @ofO_some <| And.intro @ofO_none <| And.intro @truD_non <| And.intro @truD_bl <| And.intro @truD_int <| And.intro @truD_str <| And.intro @truD_tup <| And.intro @truD_lst <| And.intro @truD_lsk <| And.intro @ev_tup <| And.intro @ev_lst <| And.intro @ev_nwF <| And.intro @ev_nwM <| And.intro @ev_meth <| And.intro @ev_make <| And.intro @ev_fld <| And.intro @ev_setF <| And.intro @ev_bm1 <| And.intro @asQ_tup <| And.intro @asQ_lst <| And.intro @asQ_lsk <| And.intro @asL_lst <| And.intro @asL_lsk <| And.intro @dLen_tup <| And.intro @dLen_lst <| And.intro @dLen_lsk <| And.intro @dLen_str <| And.intro @dIx_tup <| And.intro @dIx_lst <| And.intro @dIx_lsk <| And.intro @dIx_str <| And.intro @dAdd_int <| And.intro @dNeg_int <| And.intro @isN_def <| And.intro @notN_def <| And.intro @isNon_non <| And.intro @isNon_int <| And.intro @isNon_bl <| And.intro @isNon_str <| And.intro @isNon_tup <| And.intro @isNon_lst <| And.intro @isNon_obj <| And.intro @isNon_exc <| And.intro @dEq_int <| And.intro @dNe_int <| And.intro @dEq_str <| And.intro @dNe_str <| And.intro @dEq_bl <| And.intro @atI_zero <| And.intro @atI_one <| And.intro @atI_2 <| And.intro @atI_3 <| And.intro @atI_4 <| And.intro @atI_5 <| And.intro @atI_6 <| And.intro @atI_7 <| And.intro @atI_8 <| And.intro @atI_9 <| And.intro @atI_10 <| And.intro @atI_11 <| And.intro @atI_12 <| And.intro @atI_m1 <| And.intro @ev_gT <| And.intro @setAll_nil <| And.intro @setAll_cons <| And.intro @iOp_int <| And.intro @ev_gN <| And.intro @ev_ret <| And.intro @List.map_cons.{0, 0} <| And.intro @List.map_nil.{0, 0} <| And.intro @List.length_cons.{0} <| And.intro @List.length_nil.{0} <| And.intro @rep_zero <| And.intro @rep_succ <| And.intro @List.cons_append.{0} <| And.intro @List.nil_append.{0} <| And.intro @List.getElem?_cons_zero.{0} <| And.intro @List.getElem?_cons_succ.{0} <| And.intro @List.set_cons_zero.{0} <| And.intro @List.set_cons_succ.{0} <| And.intro @Nat.sub_self <| And.intro @Option.map_some.{0, 0} <| And.intro @Option.bind_some.{0, 0} <| And.intro @if_true.{1} <| And.intro @Bool.not_true <| And.intro @Bool.not_false <| And.intro @Bool.false_eq_true <| And.intro @if_false.{1} <| And.intro @decide_true <| And.intro @decide_false <| And.intro @beq_self_eq_true.{0} <| And.intro @eq_self.{1} <| And.intro @not_true_eq_false <| And.intro @not_false_eq_true <| And.intro @true_and <| And.intro @and_true <| And.intro @true_or <| And.intro @or_true <| And.intro @false_or <| And.intro @or_false <| And.intro @and_false <| And.intro @false_and <| And.intro @decide_eq_true_eq <| And.intro @Bool.true_and <| And.intro @Bool.and_true <| And.intro @Bool.false_and <| And.intro @Bool.and_false <| And.intro @Bool.true_or <| And.intro @Bool.or_true <| And.intro @Bool.false_or <| And.intro @Bool.or_false <| And.intro @insD_at <| And.intro @isLst_at <| And.intro @asL_at <| And.intro @asQ_at <| And.intro @lstAt_at <| And.intro @trkL_at <| And.intro @truD_atS <| And.intro @dLen_at <| And.intro @dIx_at <| And.intro @isDic_at <| And.intro @setFD_at <| And.intro @isStr_str <| And.intro @isLst_lst <| And.intro @Option.isSome_some.{0} <| And.intro @Option.isSome_none.{0} <| And.intro @Option.isSome_map.{0, 0} <| And.intro @ev_for <| And.intro @ev_lc <| And.intro @ev_iSeq <| And.intro @ev_iRange <| And.intro @ev_sl <| And.intro @evp_none <| And.intro @evp_some <| And.intro @dSl_tup <| And.intro @dSl_lst <| And.intro @wipeD_nil <| And.intro @wipeD_cons <| And.intro @ev_tryH <| And.intro @ev_setI <| And.intro @ev_raise <| And.intro @ev_dput <| And.intro @ev_dnewK <| And.intro @ev_dnewT <| And.intro @setS_cons <| And.intro @setS_nil <| And.intro @mkS_beq <| And.intro @mkS_len <| And.intro @dSplit_mk <| And.intro @signs_mk <| And.intro @List.isEmpty_nil.{0} <| And.intro @List.isEmpty_cons.{0} <| And.intro @List.length_map.{0, 0} <| And.intro @ofS_beq <| And.intro @dIn_t2 <| And.intro @dIn_t3 <| And.intro @dDget_def <| And.intro @dgetD_at <| And.intro @dputD_at <| And.intro @keyD_str <| And.intro @keyD_int <| And.intro @valA_w <| And.intro @valA_nil <| And.intro @putA_w <| And.intro @putA_nilw <| And.intro @sz_1 <| And.intro @sz_2 <| And.intro @sz_3 <| And.intro @sz_4 <| And.intro @sz_5 <| And.intro @sz_6 <| And.intro @sz_7 <| And.intro @sz_8 <| And.intro @sz_9 <| And.intro @nc_lit <| And.intro @Int.natCast_one <| @Int.natCast_zero
end Pd
namespace Tx
open PySem L2 Pd
def top (i : Nat) : Stmt := PySem.Challenge.pw_tidinghall_k20_whole_packets.main.body.getD i (.Pass ⟨0, 0, 0, 0⟩)
def J : Cn
  | 0 => (Str.ofString "Bytes", [Str.ofString "row", Str.ofString "spot"])
  | 1 => (Str.ofString "TidingError", [])
  | 2 => (Str.ofString "BadName", [])
  | 3 => (Str.ofString "BadPacket", [])
  | 4 => (Str.ofString "BadBytes", [])
  | 5 => (Str.ofString "BadLine", [])
  | 6 => (Str.ofString "BadText", [])
  | _ => (Str.ofString "", [])
abbrev s_is_level : Stmt := top 11
theorem sc_is_level : FnScope ["level", "sign"] ["level"] (defScope s_is_level) := ⟨rfl, rfl, rfl, by decide +kernel, rfl, by decide +kernel, by decide +kernel⟩
abbrev s_look_hearer : Stmt := top 14
theorem sc_look_hearer : FnScope ["hearer", "sign"] ["hearer"] (defScope s_look_hearer) := ⟨rfl, rfl, rfl, by decide +kernel, rfl, by decide +kernel, by decide +kernel⟩
abbrev s_look_grade : Stmt := top 15
theorem sc_look_grade : FnScope ["grade"] ["grade"] (defScope s_look_grade) := ⟨rfl, rfl, rfl, by decide +kernel, rfl, by decide +kernel, by decide +kernel⟩
abbrev s_kind_number : Stmt := top 27
theorem sc_kind_number : FnScope ["word", "some"] ["word"] (defScope s_kind_number) := ⟨rfl, rfl, rfl, by decide +kernel, rfl, by decide +kernel, by decide +kernel⟩
abbrev s_must : Stmt := top 28
theorem sc_must : FnScope ["right"] ["right"] (defScope s_must) := ⟨rfl, rfl, rfl, by decide +kernel, rfl, by decide +kernel, by decide +kernel⟩
abbrev s_is_body : Stmt := top 29
theorem sc_is_body : FnScope ["body", "sign"] ["body"] (defScope s_is_body) := ⟨rfl, rfl, rfl, by decide +kernel, rfl, by decide +kernel, by decide +kernel⟩
abbrev s_is_id : Stmt := top 30
theorem sc_is_id : FnScope ["number"] ["number"] (defScope s_is_id) := ⟨rfl, rfl, rfl, by decide +kernel, rfl, by decide +kernel, by decide +kernel⟩
abbrev s_id_bytes : Stmt := top 36
theorem sc_id_bytes : FnScope ["number"] ["number"] (defScope s_id_bytes) := ⟨rfl, rfl, rfl, by decide +kernel, rfl, by decide +kernel, by decide +kernel⟩
abbrev s_length_bytes : Stmt := top 40
theorem sc_length_bytes : FnScope ["many"] ["many"] (defScope s_length_bytes) := ⟨rfl, rfl, rfl, by decide +kernel, rfl, by decide +kernel, by decide +kernel⟩
abbrev s_Bytes_init : Stmt := inClass (top 42) 0
theorem sc_Bytes_init : FnScope ["self", "row"] ["self", "row"] (defScope s_Bytes_init) := ⟨rfl, rfl, rfl, by decide +kernel, rfl, by decide +kernel, by decide +kernel⟩
abbrev s_Bytes_is_end : Stmt := inClass (top 42) 1
theorem sc_Bytes_is_end : FnScope ["self"] ["self"] (defScope s_Bytes_is_end) := ⟨rfl, rfl, rfl, by decide +kernel, rfl, by decide +kernel, by decide +kernel⟩
abbrev s_head_of : Stmt := top 47
theorem sc_head_of : FnScope ["row", "many"] ["row"] (defScope s_head_of) := ⟨rfl, rfl, rfl, by decide +kernel, rfl, by decide +kernel, by decide +kernel⟩
abbrev s_law_cell : Stmt := top 50
theorem sc_law_cell : FnScope ["script", "k"] ["script", "k"] (defScope s_law_cell) := ⟨rfl, rfl, rfl, by decide +kernel, rfl, by decide +kernel, by decide +kernel⟩
abbrev s_law_refusal : Stmt := top 54
theorem sc_law_refusal : FnScope ["held", "kinds"] ["held"] (defScope s_law_refusal) := ⟨rfl, rfl, rfl, by decide +kernel, rfl, by decide +kernel, by decide +kernel⟩
abbrev s_law_codes : Stmt := top 64
theorem sc_law_codes : FnScope ["text", "sign"] ["text"] (defScope s_law_codes) := ⟨rfl, rfl, rfl, by decide +kernel, rfl, by decide +kernel, by decide +kernel⟩
abbrev s_look_name : Stmt := top 12
theorem sc_look_name : FnScope ["name", "levels", "level"] ["name"] (defScope s_look_name) := ⟨rfl, rfl, rfl, by decide +kernel, rfl, by decide +kernel, by decide +kernel⟩
abbrev s_look_wish : Stmt := top 13
theorem sc_look_wish : FnScope ["wish", "levels", "plain", "level"] ["wish"] (defScope s_look_wish) := ⟨rfl, rfl, rfl, by decide +kernel, rfl, by decide +kernel, by decide +kernel⟩
abbrev s_text_bytes : Stmt := top 37
theorem sc_text_bytes : FnScope ["text", "sign"] ["text"] (defScope s_text_bytes) := ⟨rfl, rfl, rfl, by decide +kernel, rfl, by decide +kernel, by decide +kernel⟩
abbrev s_Bytes_byte : Stmt := inClass (top 42) 2
theorem sc_Bytes_byte : FnScope ["self"] ["self"] (defScope s_Bytes_byte) := ⟨rfl, rfl, rfl, by decide +kernel, rfl, by decide +kernel, by decide +kernel⟩
abbrev s_law_mix : Stmt := top 51
theorem sc_law_mix : FnScope ["script", "k", "number"] ["script", "k"] (defScope s_law_mix) := ⟨rfl, rfl, rfl, by decide +kernel, rfl, by decide +kernel, by decide +kernel⟩
abbrev s_law_counted : Stmt := top 65
theorem sc_law_counted : FnScope ["text"] ["text"] (defScope s_law_counted) := ⟨rfl, rfl, rfl, by decide +kernel, rfl, by decide +kernel, by decide +kernel⟩
abbrev s_look_tiding : Stmt := top 31
theorem sc_look_tiding : FnScope ["name", "body", "grade", "kept"] ["name", "body", "grade", "kept"] (defScope s_look_tiding) := ⟨rfl, rfl, rfl, by decide +kernel, rfl, by decide +kernel, by decide +kernel⟩
abbrev s_look_some : Stmt := top 33
theorem sc_look_some : FnScope ["packet", "one"] ["packet"] (defScope s_look_some) := ⟨rfl, rfl, rfl, by decide +kernel, rfl, by decide +kernel, by decide +kernel⟩
abbrev s_will_bytes : Stmt := top 38
theorem sc_will_bytes : FnScope ["packet", "will", "flags"] ["packet"] (defScope s_will_bytes) := ⟨rfl, rfl, rfl, by decide +kernel, rfl, by decide +kernel, by decide +kernel⟩
abbrev s_Bytes_number : Stmt := inClass (top 42) 3
theorem sc_Bytes_number : FnScope ["self", "first"] ["self"] (defScope s_Bytes_number) := ⟨rfl, rfl, rfl, by decide +kernel, rfl, by decide +kernel, by decide +kernel⟩
abbrev s_Bytes_text : Stmt := inClass (top 42) 4
theorem sc_Bytes_text : FnScope ["self", "many", "found", "k", "byte"] ["self", "many"] (defScope s_Bytes_text) := ⟨rfl, rfl, rfl, by decide +kernel, rfl, by decide +kernel, by decide +kernel⟩
abbrev s_law_draw : Stmt := top 52
theorem sc_law_draw : FnScope ["script", "town", "many"] ["script", "town", "many"] (defScope s_law_draw) := ⟨rfl, rfl, rfl, by decide +kernel, rfl, by decide +kernel, by decide +kernel⟩
abbrev s_law_rest : Stmt := top 66
theorem sc_law_rest : FnScope ["packet", "word", "will", "first", "flags", "number", "found", "one"] ["packet"] (defScope s_law_rest) := ⟨rfl, rfl, rfl, by decide +kernel, rfl, by decide +kernel, by decide +kernel⟩
abbrev s_look_say : Stmt := top 32
theorem sc_look_say : FnScope ["packet"] ["packet"] (defScope s_look_say) := ⟨rfl, rfl, rfl, by decide +kernel, rfl, by decide +kernel, by decide +kernel⟩
abbrev s_rest_bytes : Stmt := top 39
theorem sc_rest_bytes : FnScope ["packet", "word", "number", "found", "one", "sign"] ["packet"] (defScope s_rest_bytes) := ⟨rfl, rfl, rfl, by decide +kernel, rfl, by decide +kernel, by decide +kernel⟩
abbrev s_Bytes_counted : Stmt := inClass (top 42) 5
theorem sc_Bytes_counted : FnScope ["self"] ["self"] (defScope s_Bytes_counted) := ⟨rfl, rfl, rfl, by decide +kernel, rfl, by decide +kernel, by decide +kernel⟩
abbrev s_law_pick : Stmt := top 53
theorem sc_law_pick : FnScope ["script", "town", "some"] ["script", "town", "some"] (defScope s_law_pick) := ⟨rfl, rfl, rfl, by decide +kernel, rfl, by decide +kernel, by decide +kernel⟩
abbrev s_law_bytes : Stmt := top 67
theorem sc_law_bytes : FnScope ["packet", "kinds", "first", "rest", "many"] ["packet"] (defScope s_law_bytes) := ⟨rfl, rfl, rfl, by decide +kernel, rfl, by decide +kernel, by decide +kernel⟩
abbrev s_look_whole : Stmt := top 34
theorem sc_look_whole : FnScope ["packet", "word"] ["packet"] (defScope s_look_whole) := ⟨rfl, rfl, rfl, by decide +kernel, rfl, by decide +kernel, by decide +kernel⟩
abbrev s_read_connect : Stmt := top 43
theorem sc_read_connect : FnScope ["row", "hearer", "flags", "clean", "name"] ["row"] (defScope s_read_connect) := ⟨rfl, rfl, rfl, by decide +kernel, rfl, by decide +kernel, by decide +kernel⟩
abbrev s_read_say : Stmt := top 44
theorem sc_read_say : FnScope ["row", "flags", "name", "grade", "number", "body"] ["row", "flags"] (defScope s_read_say) := ⟨rfl, rfl, rfl, by decide +kernel, rfl, by decide +kernel, by decide +kernel⟩
abbrev s_read_some : Stmt := top 45
theorem sc_read_some : FnScope ["row", "word", "number", "some", "wish"] ["row", "word"] (defScope s_read_some) := ⟨rfl, rfl, rfl, by decide +kernel, rfl, by decide +kernel, by decide +kernel⟩
abbrev s_law_signs : Stmt := top 55
theorem sc_law_signs : FnScope ["script", "town", "many", "also", "signs", "found", "k", "sign"] ["script", "town", "many", "also"] (defScope s_law_signs) := ⟨rfl, rfl, rfl, by decide +kernel, rfl, by decide +kernel, by decide +kernel⟩
abbrev s_law_hearer : Stmt := top 59
theorem sc_law_hearer : FnScope ["script", "town", "signs", "found", "k"] ["script", "town"] (defScope s_law_hearer) := ⟨rfl, rfl, rfl, by decide +kernel, rfl, by decide +kernel, by decide +kernel⟩
abbrev s_law_id : Stmt := top 62
theorem sc_law_id : FnScope ["script", "town"] ["script", "town"] (defScope s_law_id) := ⟨rfl, rfl, rfl, by decide +kernel, rfl, by decide +kernel, by decide +kernel⟩
abbrev s_law_bad : Stmt := top 69
theorem sc_law_bad : FnScope ["script", "town", "some"] ["script", "town"] (defScope s_law_bad) := ⟨rfl, rfl, rfl, by decide +kernel, rfl, by decide +kernel, by decide +kernel⟩
abbrev s_look_packet : Stmt := top 35
theorem sc_look_packet : FnScope ["packet"] ["packet"] (defScope s_look_packet) := ⟨rfl, rfl, rfl, by decide +kernel, rfl, by decide +kernel, by decide +kernel⟩
abbrev s_read_rest : Stmt := top 46
theorem sc_read_rest : FnScope ["word", "flags", "row"] ["word", "flags", "row"] (defScope s_read_rest) := ⟨rfl, rfl, rfl, by decide +kernel, rfl, by decide +kernel, by decide +kernel⟩
abbrev s_law_level : Stmt := top 56
theorem sc_law_level : FnScope ["script", "town", "way"] ["script", "town"] (defScope s_law_level) := ⟨rfl, rfl, rfl, by decide +kernel, rfl, by decide +kernel, by decide +kernel⟩
abbrev s_law_body : Stmt := top 60
theorem sc_law_body : FnScope ["script", "town"] ["script", "town"] (defScope s_law_body) := ⟨rfl, rfl, rfl, by decide +kernel, rfl, by decide +kernel, by decide +kernel⟩
abbrev s_written_packet : Stmt := top 41
theorem sc_written_packet : FnScope ["packet", "flags", "rest"] ["packet"] (defScope s_written_packet) := ⟨rfl, rfl, rfl, by decide +kernel, rfl, by decide +kernel, by decide +kernel⟩
abbrev s_law_name : Stmt := top 57
theorem sc_law_name : FnScope ["script", "town", "levels", "k"] ["script", "town"] (defScope s_law_name) := ⟨rfl, rfl, rfl, by decide +kernel, rfl, by decide +kernel, by decide +kernel⟩
abbrev s_law_wish : Stmt := top 58
theorem sc_law_wish : FnScope ["script", "town", "levels", "k"] ["script", "town"] (defScope s_law_wish) := ⟨rfl, rfl, rfl, by decide +kernel, rfl, by decide +kernel, by decide +kernel⟩
abbrev s_read_packet : Stmt := top 48
theorem sc_read_packet : FnScope ["row", "head", "reader", "packet", "kept"] ["row"] (defScope s_read_packet) := ⟨rfl, rfl, rfl, by decide +kernel, rfl, by decide +kernel, by decide +kernel⟩
abbrev s_law_tiding : Stmt := top 61
theorem sc_law_tiding : FnScope ["script", "town", "body"] ["script", "town"] (defScope s_law_tiding) := ⟨rfl, rfl, rfl, by decide +kernel, rfl, by decide +kernel, by decide +kernel⟩
abbrev s_law_packet : Stmt := top 63
theorem sc_law_packet : FnScope ["script", "town", "words", "word", "will", "tiding", "number", "some", "k", "wish", "grade"] ["script", "town"] (defScope s_law_packet) := ⟨rfl, rfl, rfl, by decide +kernel, rfl, by decide +kernel, by decide +kernel⟩
abbrev s_law_told : Stmt := top 68
theorem sc_law_told : FnScope ["way", "thing", "held", "found", "e"] ["way", "thing"] (defScope s_law_told) := ⟨rfl, rfl, rfl, by decide +kernel, rfl, by decide +kernel, by decide +kernel⟩
abbrev s_law : Stmt := top 70
theorem sc_law : FnScope ["script", "town", "packet", "row", "given", "bad", "way"] ["script"] (defScope s_law) := ⟨rfl, rfl, rfl, by decide +kernel, rfl, by decide +kernel, by decide +kernel⟩
abbrev c_KINDS : List Str := [Str.ofString "", Str.ofString "connect", Str.ofString "greeted", Str.ofString "say", Str.ofString "got", Str.ofString "held", Str.ofString "free", Str.ofString "done", Str.ofString "hear", Str.ofString "heard", Str.ofString "drop", Str.ofString "dropped"]
abbrev c_MORE_KINDS : List Str := [Str.ofString "ping", Str.ofString "pong", Str.ofString "leave"]
abbrev c_LENGTHS : List (Str × Int) := [(Str.ofString "connect", 4), (Str.ofString "greeted", 2), (Str.ofString "say", 7), (Str.ofString "got", 2), (Str.ofString "held", 2), (Str.ofString "free", 2), (Str.ofString "done", 2), (Str.ofString "hear", 3), (Str.ofString "heard", 3)]
abbrev c_MORE_LENGTHS : List (Str × Int) := [(Str.ofString "drop", 3), (Str.ofString "dropped", 2), (Str.ofString "ping", 1), (Str.ofString "pong", 1), (Str.ofString "leave", 1)]
structure Ad where
  (f_is_level f_look_hearer f_look_grade f_kind_number f_must f_is_body f_is_id f_id_bytes f_length_bytes f_Bytes_init f_Bytes_is_end f_head_of f_law_cell f_law_refusal f_law_codes f_look_name f_look_wish f_text_bytes f_Bytes_byte f_law_mix f_law_counted f_look_tiding f_look_some f_will_bytes f_Bytes_number f_Bytes_text f_law_draw f_law_rest f_look_say f_rest_bytes f_Bytes_counted f_law_pick f_law_bytes f_look_whole f_read_connect f_read_say f_read_some f_law_signs f_law_hearer f_law_id f_law_bad f_look_packet f_read_rest f_law_level f_law_body f_written_packet f_law_name f_law_wish f_read_packet f_law_tiding f_law_packet f_law_told f_law C_Bytes C_TidingError C_BadName C_BadPacket C_BadBytes C_BadLine C_BadText L_KINDS L_MORE_KINDS L_LENGTHS L_MORE_LENGTHS : Addr)
  (t_MOST_LEVELS t_MOST_SIGNS t_SMALL t_MOST_BODY t_MOST_ID t_MOST_WISHES t_MOST_REST t_REFUSED t_SIGNS : Tok)
structure Txt (w : World) (K : PySem.W.Frag) (mg : Str → Option Value) (A : Ad) : Prop where
  d_is_level : ∃ fd, Fun K "is_level" "is_level" s_is_level A.f_is_level fd ∧ Binds K fd ["level"] []
  g_is_level : mg "is_level" = some (.ref A.f_is_level)
  k_is_level : PySem.W.keepIn K (.ref A.f_is_level) = true
  d_look_hearer : ∃ fd, Fun K "look_hearer" "look_hearer" s_look_hearer A.f_look_hearer fd ∧ Binds K fd ["hearer"] []
  g_look_hearer : mg "look_hearer" = some (.ref A.f_look_hearer)
  k_look_hearer : PySem.W.keepIn K (.ref A.f_look_hearer) = true
  d_look_grade : ∃ fd, Fun K "look_grade" "look_grade" s_look_grade A.f_look_grade fd ∧ Binds K fd ["grade"] []
  g_look_grade : mg "look_grade" = some (.ref A.f_look_grade)
  k_look_grade : PySem.W.keepIn K (.ref A.f_look_grade) = true
  d_kind_number : ∃ fd, Fun K "kind_number" "kind_number" s_kind_number A.f_kind_number fd ∧ Binds K fd ["word"] []
  g_kind_number : mg "kind_number" = some (.ref A.f_kind_number)
  k_kind_number : PySem.W.keepIn K (.ref A.f_kind_number) = true
  d_must : ∃ fd, Fun K "must" "must" s_must A.f_must fd ∧ Binds K fd ["right"] []
  g_must : mg "must" = some (.ref A.f_must)
  k_must : PySem.W.keepIn K (.ref A.f_must) = true
  d_is_body : ∃ fd, Fun K "is_body" "is_body" s_is_body A.f_is_body fd ∧ Binds K fd ["body"] []
  g_is_body : mg "is_body" = some (.ref A.f_is_body)
  k_is_body : PySem.W.keepIn K (.ref A.f_is_body) = true
  d_is_id : ∃ fd, Fun K "is_id" "is_id" s_is_id A.f_is_id fd ∧ Binds K fd ["number"] []
  g_is_id : mg "is_id" = some (.ref A.f_is_id)
  k_is_id : PySem.W.keepIn K (.ref A.f_is_id) = true
  d_id_bytes : ∃ fd, Fun K "id_bytes" "id_bytes" s_id_bytes A.f_id_bytes fd ∧ Binds K fd ["number"] []
  g_id_bytes : mg "id_bytes" = some (.ref A.f_id_bytes)
  k_id_bytes : PySem.W.keepIn K (.ref A.f_id_bytes) = true
  d_length_bytes : ∃ fd, Fun K "length_bytes" "length_bytes" s_length_bytes A.f_length_bytes fd ∧ Binds K fd ["many"] []
  g_length_bytes : mg "length_bytes" = some (.ref A.f_length_bytes)
  k_length_bytes : PySem.W.keepIn K (.ref A.f_length_bytes) = true
  d_Bytes_init : ∃ fd, Fun K "__init__" "Bytes.__init__" s_Bytes_init A.f_Bytes_init fd ∧ Binds K fd ["self", "row"] []
  d_Bytes_is_end : ∃ fd, Fun K "is_end" "Bytes.is_end" s_Bytes_is_end A.f_Bytes_is_end fd ∧ Binds K fd ["self"] []
  d_head_of : ∃ fd, Fun K "head_of" "head_of" s_head_of A.f_head_of fd ∧ Binds K fd ["row"] []
  g_head_of : mg "head_of" = some (.ref A.f_head_of)
  k_head_of : PySem.W.keepIn K (.ref A.f_head_of) = true
  d_law_cell : ∃ fd, Fun K "_law_cell" "_law_cell" s_law_cell A.f_law_cell fd ∧ Binds K fd ["script", "k"] []
  g_law_cell : mg "_law_cell" = some (.ref A.f_law_cell)
  k_law_cell : PySem.W.keepIn K (.ref A.f_law_cell) = true
  d_law_refusal : ∃ fd, Fun K "_law_refusal" "_law_refusal" s_law_refusal A.f_law_refusal fd ∧ Binds K fd ["held"] []
  g_law_refusal : mg "_law_refusal" = some (.ref A.f_law_refusal)
  k_law_refusal : PySem.W.keepIn K (.ref A.f_law_refusal) = true
  d_law_codes : ∃ fd, Fun K "_law_codes" "_law_codes" s_law_codes A.f_law_codes fd ∧ Binds K fd ["text"] []
  g_law_codes : mg "_law_codes" = some (.ref A.f_law_codes)
  k_law_codes : PySem.W.keepIn K (.ref A.f_law_codes) = true
  d_look_name : ∃ fd, Fun K "look_name" "look_name" s_look_name A.f_look_name fd ∧ Binds K fd ["name"] []
  g_look_name : mg "look_name" = some (.ref A.f_look_name)
  k_look_name : PySem.W.keepIn K (.ref A.f_look_name) = true
  d_look_wish : ∃ fd, Fun K "look_wish" "look_wish" s_look_wish A.f_look_wish fd ∧ Binds K fd ["wish"] []
  g_look_wish : mg "look_wish" = some (.ref A.f_look_wish)
  k_look_wish : PySem.W.keepIn K (.ref A.f_look_wish) = true
  d_text_bytes : ∃ fd, Fun K "text_bytes" "text_bytes" s_text_bytes A.f_text_bytes fd ∧ Binds K fd ["text"] []
  g_text_bytes : mg "text_bytes" = some (.ref A.f_text_bytes)
  k_text_bytes : PySem.W.keepIn K (.ref A.f_text_bytes) = true
  d_Bytes_byte : ∃ fd, Fun K "byte" "Bytes.byte" s_Bytes_byte A.f_Bytes_byte fd ∧ Binds K fd ["self"] []
  d_law_mix : ∃ fd, Fun K "_law_mix" "_law_mix" s_law_mix A.f_law_mix fd ∧ Binds K fd ["script", "k"] []
  g_law_mix : mg "_law_mix" = some (.ref A.f_law_mix)
  k_law_mix : PySem.W.keepIn K (.ref A.f_law_mix) = true
  d_law_counted : ∃ fd, Fun K "_law_counted" "_law_counted" s_law_counted A.f_law_counted fd ∧ Binds K fd ["text"] []
  g_law_counted : mg "_law_counted" = some (.ref A.f_law_counted)
  k_law_counted : PySem.W.keepIn K (.ref A.f_law_counted) = true
  d_look_tiding : ∃ fd, Fun K "look_tiding" "look_tiding" s_look_tiding A.f_look_tiding fd ∧ Binds K fd ["name", "body", "grade", "kept"] []
  g_look_tiding : mg "look_tiding" = some (.ref A.f_look_tiding)
  k_look_tiding : PySem.W.keepIn K (.ref A.f_look_tiding) = true
  d_look_some : ∃ fd, Fun K "look_some" "look_some" s_look_some A.f_look_some fd ∧ Binds K fd ["packet"] []
  g_look_some : mg "look_some" = some (.ref A.f_look_some)
  k_look_some : PySem.W.keepIn K (.ref A.f_look_some) = true
  d_will_bytes : ∃ fd, Fun K "will_bytes" "will_bytes" s_will_bytes A.f_will_bytes fd ∧ Binds K fd ["packet"] []
  g_will_bytes : mg "will_bytes" = some (.ref A.f_will_bytes)
  k_will_bytes : PySem.W.keepIn K (.ref A.f_will_bytes) = true
  d_Bytes_number : ∃ fd, Fun K "number" "Bytes.number" s_Bytes_number A.f_Bytes_number fd ∧ Binds K fd ["self"] []
  d_Bytes_text : ∃ fd, Fun K "text" "Bytes.text" s_Bytes_text A.f_Bytes_text fd ∧ Binds K fd ["self", "many"] []
  d_law_draw : ∃ fd, Fun K "_law_draw" "_law_draw" s_law_draw A.f_law_draw fd ∧ Binds K fd ["script", "town", "many"] []
  g_law_draw : mg "_law_draw" = some (.ref A.f_law_draw)
  k_law_draw : PySem.W.keepIn K (.ref A.f_law_draw) = true
  d_law_rest : ∃ fd, Fun K "_law_rest" "_law_rest" s_law_rest A.f_law_rest fd ∧ Binds K fd ["packet"] []
  g_law_rest : mg "_law_rest" = some (.ref A.f_law_rest)
  k_law_rest : PySem.W.keepIn K (.ref A.f_law_rest) = true
  d_look_say : ∃ fd, Fun K "look_say" "look_say" s_look_say A.f_look_say fd ∧ Binds K fd ["packet"] []
  g_look_say : mg "look_say" = some (.ref A.f_look_say)
  k_look_say : PySem.W.keepIn K (.ref A.f_look_say) = true
  d_rest_bytes : ∃ fd, Fun K "rest_bytes" "rest_bytes" s_rest_bytes A.f_rest_bytes fd ∧ Binds K fd ["packet"] []
  g_rest_bytes : mg "rest_bytes" = some (.ref A.f_rest_bytes)
  k_rest_bytes : PySem.W.keepIn K (.ref A.f_rest_bytes) = true
  d_Bytes_counted : ∃ fd, Fun K "counted" "Bytes.counted" s_Bytes_counted A.f_Bytes_counted fd ∧ Binds K fd ["self"] []
  d_law_pick : ∃ fd, Fun K "_law_pick" "_law_pick" s_law_pick A.f_law_pick fd ∧ Binds K fd ["script", "town", "some"] []
  g_law_pick : mg "_law_pick" = some (.ref A.f_law_pick)
  k_law_pick : PySem.W.keepIn K (.ref A.f_law_pick) = true
  d_law_bytes : ∃ fd, Fun K "_law_bytes" "_law_bytes" s_law_bytes A.f_law_bytes fd ∧ Binds K fd ["packet"] []
  g_law_bytes : mg "_law_bytes" = some (.ref A.f_law_bytes)
  k_law_bytes : PySem.W.keepIn K (.ref A.f_law_bytes) = true
  d_look_whole : ∃ fd, Fun K "look_whole" "look_whole" s_look_whole A.f_look_whole fd ∧ Binds K fd ["packet"] []
  g_look_whole : mg "look_whole" = some (.ref A.f_look_whole)
  k_look_whole : PySem.W.keepIn K (.ref A.f_look_whole) = true
  d_read_connect : ∃ fd, Fun K "read_connect" "read_connect" s_read_connect A.f_read_connect fd ∧ Binds K fd ["row"] []
  g_read_connect : mg "read_connect" = some (.ref A.f_read_connect)
  k_read_connect : PySem.W.keepIn K (.ref A.f_read_connect) = true
  d_read_say : ∃ fd, Fun K "read_say" "read_say" s_read_say A.f_read_say fd ∧ Binds K fd ["row", "flags"] []
  g_read_say : mg "read_say" = some (.ref A.f_read_say)
  k_read_say : PySem.W.keepIn K (.ref A.f_read_say) = true
  d_read_some : ∃ fd, Fun K "read_some" "read_some" s_read_some A.f_read_some fd ∧ Binds K fd ["row", "word"] []
  g_read_some : mg "read_some" = some (.ref A.f_read_some)
  k_read_some : PySem.W.keepIn K (.ref A.f_read_some) = true
  d_law_signs : ∃ fd, Fun K "_law_signs" "_law_signs" s_law_signs A.f_law_signs fd ∧ Binds K fd ["script", "town", "many", "also"] []
  g_law_signs : mg "_law_signs" = some (.ref A.f_law_signs)
  k_law_signs : PySem.W.keepIn K (.ref A.f_law_signs) = true
  d_law_hearer : ∃ fd, Fun K "_law_hearer" "_law_hearer" s_law_hearer A.f_law_hearer fd ∧ Binds K fd ["script", "town"] []
  g_law_hearer : mg "_law_hearer" = some (.ref A.f_law_hearer)
  k_law_hearer : PySem.W.keepIn K (.ref A.f_law_hearer) = true
  d_law_id : ∃ fd, Fun K "_law_id" "_law_id" s_law_id A.f_law_id fd ∧ Binds K fd ["script", "town"] []
  g_law_id : mg "_law_id" = some (.ref A.f_law_id)
  k_law_id : PySem.W.keepIn K (.ref A.f_law_id) = true
  d_law_bad : ∃ fd, Fun K "_law_bad" "_law_bad" s_law_bad A.f_law_bad fd ∧ Binds K fd ["script", "town"] []
  g_law_bad : mg "_law_bad" = some (.ref A.f_law_bad)
  k_law_bad : PySem.W.keepIn K (.ref A.f_law_bad) = true
  d_look_packet : ∃ fd, Fun K "look_packet" "look_packet" s_look_packet A.f_look_packet fd ∧ Binds K fd ["packet"] []
  g_look_packet : mg "look_packet" = some (.ref A.f_look_packet)
  k_look_packet : PySem.W.keepIn K (.ref A.f_look_packet) = true
  d_read_rest : ∃ fd, Fun K "read_rest" "read_rest" s_read_rest A.f_read_rest fd ∧ Binds K fd ["word", "flags", "row"] []
  g_read_rest : mg "read_rest" = some (.ref A.f_read_rest)
  k_read_rest : PySem.W.keepIn K (.ref A.f_read_rest) = true
  d_law_level : ∃ fd, Fun K "_law_level" "_law_level" s_law_level A.f_law_level fd ∧ Binds K fd ["script", "town"] []
  g_law_level : mg "_law_level" = some (.ref A.f_law_level)
  k_law_level : PySem.W.keepIn K (.ref A.f_law_level) = true
  d_law_body : ∃ fd, Fun K "_law_body" "_law_body" s_law_body A.f_law_body fd ∧ Binds K fd ["script", "town"] []
  g_law_body : mg "_law_body" = some (.ref A.f_law_body)
  k_law_body : PySem.W.keepIn K (.ref A.f_law_body) = true
  d_written_packet : ∃ fd, Fun K "written_packet" "written_packet" s_written_packet A.f_written_packet fd ∧ Binds K fd ["packet"] []
  g_written_packet : mg "written_packet" = some (.ref A.f_written_packet)
  k_written_packet : PySem.W.keepIn K (.ref A.f_written_packet) = true
  d_law_name : ∃ fd, Fun K "_law_name" "_law_name" s_law_name A.f_law_name fd ∧ Binds K fd ["script", "town"] []
  g_law_name : mg "_law_name" = some (.ref A.f_law_name)
  k_law_name : PySem.W.keepIn K (.ref A.f_law_name) = true
  d_law_wish : ∃ fd, Fun K "_law_wish" "_law_wish" s_law_wish A.f_law_wish fd ∧ Binds K fd ["script", "town"] []
  g_law_wish : mg "_law_wish" = some (.ref A.f_law_wish)
  k_law_wish : PySem.W.keepIn K (.ref A.f_law_wish) = true
  d_read_packet : ∃ fd, Fun K "read_packet" "read_packet" s_read_packet A.f_read_packet fd ∧ Binds K fd ["row"] []
  g_read_packet : mg "read_packet" = some (.ref A.f_read_packet)
  k_read_packet : PySem.W.keepIn K (.ref A.f_read_packet) = true
  d_law_tiding : ∃ fd, Fun K "_law_tiding" "_law_tiding" s_law_tiding A.f_law_tiding fd ∧ Binds K fd ["script", "town"] []
  g_law_tiding : mg "_law_tiding" = some (.ref A.f_law_tiding)
  k_law_tiding : PySem.W.keepIn K (.ref A.f_law_tiding) = true
  d_law_packet : ∃ fd, Fun K "_law_packet" "_law_packet" s_law_packet A.f_law_packet fd ∧ Binds K fd ["script", "town"] []
  g_law_packet : mg "_law_packet" = some (.ref A.f_law_packet)
  k_law_packet : PySem.W.keepIn K (.ref A.f_law_packet) = true
  d_law_told : ∃ fd, Fun K "_law_told" "_law_told" s_law_told A.f_law_told fd ∧ Binds K fd ["way", "thing"] []
  g_law_told : mg "_law_told" = some (.ref A.f_law_told)
  k_law_told : PySem.W.keepIn K (.ref A.f_law_told) = true
  d_law : ∃ fd, Fun K "law" "law" s_law A.f_law fd ∧ Binds K fd ["script"] []
  g_law : mg "law" = some (.ref A.f_law)
  k_law : PySem.W.keepIn K (.ref A.f_law) = true
  a_Bytes_row : AtF J K mg 0 0 "row"
  a_Bytes_spot : AtF J K mg 0 1 "spot"
  mk_Bytes : MkF J K mg 0 A.C_Bytes A.f_Bytes_init
  me_Bytes_is_end : MeF J K mg 0 "is_end" A.C_Bytes A.f_Bytes_is_end
  me_Bytes_byte : MeF J K mg 0 "byte" A.C_Bytes A.f_Bytes_byte
  me_Bytes_number : MeF J K mg 0 "number" A.C_Bytes A.f_Bytes_number
  me_Bytes_text : MeF J K mg 0 "text" A.C_Bytes A.f_Bytes_text
  me_Bytes_counted : MeF J K mg 0 "counted" A.C_Bytes A.f_Bytes_counted
  x_TidingError : PySem.W.excIn K A.C_TidingError [.type "ValueError", .type "Exception", .type "BaseException", .type "object"] "ValueError.__new__" = true
  gc_TidingError : mg "TidingError" = some (.ref A.C_TidingError)
  kc_TidingError : PySem.W.keepIn K (.ref A.C_TidingError) = true
  b_TidingError : PySem.W.subIn K (.ref A.C_TidingError) (.type "BaseException") = some true
  t_TidingError : PySem.W.typeIn K (.ref A.C_TidingError) = some (.type "type")
  x_BadName : PySem.W.excIn K A.C_BadName [.type "ValueError", .type "Exception", .type "BaseException", .type "object"] "ValueError.__new__" = true
  gc_BadName : mg "BadName" = some (.ref A.C_BadName)
  kc_BadName : PySem.W.keepIn K (.ref A.C_BadName) = true
  b_BadName : PySem.W.subIn K (.ref A.C_BadName) (.type "BaseException") = some true
  t_BadName : PySem.W.typeIn K (.ref A.C_BadName) = some (.type "type")
  x_BadPacket : PySem.W.excIn K A.C_BadPacket [.type "ValueError", .type "Exception", .type "BaseException", .type "object"] "ValueError.__new__" = true
  gc_BadPacket : mg "BadPacket" = some (.ref A.C_BadPacket)
  kc_BadPacket : PySem.W.keepIn K (.ref A.C_BadPacket) = true
  b_BadPacket : PySem.W.subIn K (.ref A.C_BadPacket) (.type "BaseException") = some true
  t_BadPacket : PySem.W.typeIn K (.ref A.C_BadPacket) = some (.type "type")
  x_BadBytes : PySem.W.excIn K A.C_BadBytes [.type "ValueError", .type "Exception", .type "BaseException", .type "object"] "ValueError.__new__" = true
  gc_BadBytes : mg "BadBytes" = some (.ref A.C_BadBytes)
  kc_BadBytes : PySem.W.keepIn K (.ref A.C_BadBytes) = true
  b_BadBytes : PySem.W.subIn K (.ref A.C_BadBytes) (.type "BaseException") = some true
  t_BadBytes : PySem.W.typeIn K (.ref A.C_BadBytes) = some (.type "type")
  x_BadLine : PySem.W.excIn K A.C_BadLine [.type "ValueError", .type "Exception", .type "BaseException", .type "object"] "ValueError.__new__" = true
  gc_BadLine : mg "BadLine" = some (.ref A.C_BadLine)
  kc_BadLine : PySem.W.keepIn K (.ref A.C_BadLine) = true
  b_BadLine : PySem.W.subIn K (.ref A.C_BadLine) (.type "BaseException") = some true
  t_BadLine : PySem.W.typeIn K (.ref A.C_BadLine) = some (.type "type")
  x_BadText : PySem.W.excIn K A.C_BadText [.type "ValueError", .type "Exception", .type "BaseException", .type "object"] "ValueError.__new__" = true
  gc_BadText : mg "BadText" = some (.ref A.C_BadText)
  kc_BadText : PySem.W.keepIn K (.ref A.C_BadText) = true
  b_BadText : PySem.W.subIn K (.ref A.C_BadText) (.type "BaseException") = some true
  t_BadText : PySem.W.typeIn K (.ref A.C_BadText) = some (.type "type")
  xm_BadName : XmF J K mg [2] (.ref A.C_BadName)
  xn_BadName : XnF J K mg [1, 3, 4, 5, 6] (.ref A.C_BadName)
  xm_BadPacket : XmF J K mg [3] (.ref A.C_BadPacket)
  xn_BadPacket : XnF J K mg [1, 2, 4, 5, 6] (.ref A.C_BadPacket)
  xm_TidingError : XmF J K mg [1, 2, 3, 4, 5, 6] (.ref A.C_TidingError)
  xn_TidingError : XnF J K mg [] (.ref A.C_TidingError)
  ix_BadName : IsxF J K mg [(1, false), (2, true), (3, false), (4, false), (5, false), (6, false)] (.ref A.C_BadName)
  ix_BadPacket : IsxF J K mg [(1, false), (2, false), (3, true), (4, false), (5, false), (6, false)] (.ref A.C_BadPacket)
  ix_BadBytes : IsxF J K mg [(1, false), (2, false), (3, false), (4, true), (5, false), (6, false)] (.ref A.C_BadBytes)
  ix_BadLine : IsxF J K mg [(1, false), (2, false), (3, false), (4, false), (5, true), (6, false)] (.ref A.C_BadLine)
  ix_BadText : IsxF J K mg [(1, false), (2, false), (3, false), (4, false), (5, false), (6, true)] (.ref A.C_BadText)
  ix_ValueError : IsxF J K mg [(1, true), (2, true), (3, true), (4, true), (5, true), (6, true)] (.type "ValueError")
  n_ValueError : mg "ValueError" = none
  n_all : mg "all" = none
  n_int : mg "int" = none
  n_isinstance : mg "isinstance" = none
  n_len : mg "len" = none
  n_list : mg "list" = none
  n_ord : mg "ord" = none
  n_range : mg "range" = none
  n_tuple : mg "tuple" = none
  c_MOST_LEVELS : mg "MOST_LEVELS" = some (.int 8 A.t_MOST_LEVELS)
  c_MOST_SIGNS : mg "MOST_SIGNS" = some (.int 12 A.t_MOST_SIGNS)
  c_SMALL : mg "SMALL" = some (.str (Str.ofString "abcdefghijklmnopqrstuvwxyz0123456789") A.t_SMALL)
  c_MOST_BODY : mg "MOST_BODY" = some (.int 300 A.t_MOST_BODY)
  c_MOST_ID : mg "MOST_ID" = some (.int 65535 A.t_MOST_ID)
  c_MOST_WISHES : mg "MOST_WISHES" = some (.int 10 A.t_MOST_WISHES)
  c_MOST_REST : mg "MOST_REST" = some (.int 2000 A.t_MOST_REST)
  c_REFUSED : mg "REFUSED" = some (.int 128 A.t_REFUSED)
  c_SIGNS : mg "SIGNS" = some (.str (Str.ofString " !\"#$ &'()*+,-./0123456789:;<=>?@ABCDEFGHIJKLMNOPQRSTUVWXYZ[\\]^_`abcdefghijklmnopqrstuvwxyz{|}~") A.t_SIGNS)
  gv_KINDS : mg "KINDS" = some (.ref A.L_KINDS)
  kl_KINDS : KLst K A.L_KINDS c_KINDS
  gv_MORE_KINDS : mg "MORE_KINDS" = some (.ref A.L_MORE_KINDS)
  kl_MORE_KINDS : KLst K A.L_MORE_KINDS c_MORE_KINDS
  gv_LENGTHS : mg "LENGTHS" = some (.ref A.L_LENGTHS)
  kt_LENGTHS : KTab K w A.L_LENGTHS c_LENGTHS
  gv_MORE_LENGTHS : mg "MORE_LENGTHS" = some (.ref A.L_MORE_LENGTHS)
  kt_MORE_LENGTHS : KTab K w A.L_MORE_LENGTHS c_MORE_LENGTHS
/-! ### what each def means -/
noncomputable def b_is_level : Sx := sSeq (sIf (tBl (eOp dGt (eUn dLen (eVar 0)) (eC (.int 12)))) (sRet (eC (.bl false))) (sNext)) (sRet (eUn dAll (eLc nwF [1] (iSeq (eVar 0)) (gN 1) (Pd.tYes) (eAnd (eChain dLe dLt (eC (.int 32)) (eUn dOrd (eVar 1)) (eC (.int 127))) (eAnd (eOp dNe (eUn dOrd (eVar 1)) (eC (.int 37))) (eOp dNotIn (eVar 1) (eC (.str (Str.ofString "+#/")))))))))
noncomputable def m_is_level : Fn := fnOf 2 b_is_level
noncomputable def b_look_hearer : Sx := sIf (tOr (tNot (tBl (eChain dLe dLe (eC (.int 1)) (eUn dLen (eVar 0)) (eC (.int 12))))) (tNot (tTru (eUn dAll (eLc nwF [1] (iSeq (eVar 0)) (gN 1) (Pd.tYes) (eOp dIn (eVar 1) (eC (.str (Str.ofString "abcdefghijklmnopqrstuvwxyz0123456789"))))))))) (sRaise 2) (sNext)
noncomputable def m_look_hearer : Fn := fnOf 2 b_look_hearer
noncomputable def b_look_grade : Sx := sIf (tNot (tBl (eChain dLe dLe (eC (.int 0)) (eVar 0) (eC (.int 2))))) (sRaise 2) (sNext)
noncomputable def m_look_grade : Fn := fnOf 1 b_look_grade
noncomputable def b_kind_number : Sx := sSeq (sAsg (eC (.lst ((c_KINDS ++ c_MORE_KINDS).map Dt.str))) (gN 1)) (sRet (eBm1 isLst dIndex (eVar 1) (eVar 0)))
noncomputable def m_kind_number : Fn := fnOf 2 b_kind_number
noncomputable def b_must : Sx := sIf (tNot (tTru (eVar 0))) (sRaise 3) (sNext)
noncomputable def m_must : Fn := fnOf 1 b_must
noncomputable def b_is_body : Sx := sRet (eAnd (eOp dLe (eUn dLen (eVar 0)) (eC (.int 300))) (eUn dAll (eLc nwF [1] (iSeq (eVar 0)) (gN 1) (Pd.tYes) (eAnd (eChain dLe dLt (eC (.int 32)) (eUn dOrd (eVar 1)) (eC (.int 127))) (eOp dNe (eUn dOrd (eVar 1)) (eC (.int 37)))))))
noncomputable def m_is_body : Fn := fnOf 2 b_is_body
noncomputable def b_is_id : Sx := sRet (eChain dLe dLe (eC (.int 1)) (eVar 0) (eC (.int 65535)))
noncomputable def m_is_id : Fn := fnOf 1 b_is_id
noncomputable def b_id_bytes : Sx := sRet (eLst nwM [eOp dFdv (eVar 0) (eC (.int 256)), eOp dSub (eVar 0) (eOp dMul (eOp dFdv (eVar 0) (eC (.int 256))) (eC (.int 256)))])
noncomputable def m_id_bytes : Fn := fnOf 1 b_id_bytes
noncomputable def b_length_bytes : Sx := sSeq (sIf (tBl (eOp dLt (eVar 0) (eC (.int 128)))) (sRet (eLst nwF [eVar 0])) (sNext)) (sRet (eLst nwF [eOp dSub (eOp (dAdd nwF) (eC (.int 128)) (eVar 0)) (eOp dMul (eOp dFdv (eVar 0) (eC (.int 128))) (eC (.int 128))), eOp dFdv (eVar 0) (eC (.int 128))]))
noncomputable def m_length_bytes : Fn := fnOf 1 b_length_bytes
noncomputable def b_Bytes_init : Sx := sSeq (sSetF 0 0 (eVar 0) (eVar 1)) (sSetF 0 1 (eVar 0) (eC (.int 0)))
noncomputable def m_Bytes_init : Fn := fnOf 2 b_Bytes_init
noncomputable def b_Bytes_is_end : Sx := sRet (eOp dEq (eFld 0 1 (eVar 0)) (eUn dLen (eFld 0 0 (eVar 0))))
noncomputable def m_Bytes_is_end : Fn := fnOf 1 b_Bytes_is_end
noncomputable def b_head_of : Sx := sSeq (sIf (tAnd (tTru (eVar 0)) (tNot (tBl (eChain dLe dLt (eC (.int 16)) (eOp dIx (eVar 0) (eC (.int 0))) (eOp dMul (eC (.int 16)) (eUn dLen (eC (.lst ((c_KINDS ++ c_MORE_KINDS).map Dt.str))))))))) (sRaise 4) (sNext)) (sSeq (sIf (tOr (tBl (eOp dLt (eUn dLen (eVar 0)) (eC (.int 2)))) (tAnd (tBl (eOp dGe (eOp dIx (eVar 0) (eC (.int 1))) (eC (.int 128)))) (tBl (eOp dLt (eUn dLen (eVar 0)) (eC (.int 3)))))) (sRet (eC .non)) (sNext)) (sSeq (sAsg (eIf (tBl (eOp dLt (eOp dIx (eVar 0) (eC (.int 1))) (eC (.int 128)))) (eOp dIx (eVar 0) (eC (.int 1))) (eOp (dAdd nwF) (eOp dSub (eOp dIx (eVar 0) (eC (.int 1))) (eC (.int 128))) (eOp dMul (eC (.int 128)) (eOp dIx (eVar 0) (eC (.int 2)))))) (gN 1)) (sSeq (sIf (tOr (tAnd (tBl (eOp dGe (eOp dIx (eVar 0) (eC (.int 1))) (eC (.int 128)))) (tNot (tBl (eChain dLe dLt (eC (.int 1)) (eOp dIx (eVar 0) (eC (.int 2))) (eC (.int 128)))))) (tBl (eOp dGt (eVar 1) (eC (.int 2000))))) (sRaise 4) (sNext)) (sRet (eTup [eOp dIx (eVar 0) (eC (.int 0)), eVar 1, eIf (tBl (eOp dLt (eOp dIx (eVar 0) (eC (.int 1))) (eC (.int 128)))) (eC (.int 2)) (eC (.int 3))])))))
noncomputable def m_head_of : Fn := fnOf 2 b_head_of
noncomputable def b_law_cell : Sx := sSeq (sIf (tTru (eVar 0)) (sRet (eOp dIx (eVar 0) (eOp dMod (eVar 1) (eUn dLen (eVar 0))))) (sNext)) (sRet (eC (.int 0)))
noncomputable def m_law_cell : Fn := fnOf 2 b_law_cell
noncomputable def b_law_refusal : Sx := sSeq (sIf (tBl (eUn dIsN (eVar 0))) (sRet (eTup [eC (.str (Str.ofString "ok"))])) (sNext)) (sSeq (sAsg (eLst nwF [eUn (dIsx [(1, false), (2, true), (3, false), (4, false), (5, false), (6, false)]) (eVar 0), eUn (dIsx [(1, false), (2, false), (3, true), (4, false), (5, false), (6, false)]) (eVar 0), eUn (dIsx [(1, false), (2, false), (3, false), (4, true), (5, false), (6, false)]) (eVar 0)]) (gN 1)) (sSeq (sAsg (eOp (dAdd nwF) (eVar 1) (eLst nwF [eUn (dIsx [(1, false), (2, false), (3, false), (4, false), (5, true), (6, false)]) (eVar 0), eUn (dIsx [(1, false), (2, false), (3, false), (4, false), (5, false), (6, true)]) (eVar 0)])) (gN 1)) (sSeq (sIf (tOr (tBl (eOp dNe (eBm1 isLst dCount (eVar 1) (eC (.bl true))) (eC (.int 1)))) (tNot (tTru (eUn (dIsx [(1, true), (2, true), (3, true), (4, true), (5, true), (6, true)]) (eVar 0))))) (sRet (eTup [eC (.str (Str.ofString "wrong"))])) (sNext)) (sRet (eTup [eC (.str (Str.ofString "refused")), eOp dIx (eLst nwF [eC (.str (Str.ofString "name")), eC (.str (Str.ofString "packet")), eC (.str (Str.ofString "bytes")), eC (.str (Str.ofString "line")), eC (.str (Str.ofString "text"))]) (eBm1 isLst dIndex (eVar 1) (eC (.bl true)))])))))
noncomputable def m_law_refusal : Fn := fnOf 2 b_law_refusal
noncomputable def b_law_codes : Sx := sRet (eLc nwF [1] (iSeq (eVar 0)) (gN 1) (Pd.tYes) (eUn dOrd (eVar 1)))
noncomputable def m_law_codes : Fn := fnOf 2 b_law_codes
noncomputable def b_look_name : Sx := sSeq (sAsg (eBm1 isStr (dSplit nwF) (eVar 0) (eC (.str (Str.ofString "/")))) (gN 1)) (sIf (tOr (tBl (eOp dEq (eVar 0) (eC (.str (Str.ofString ""))))) (tOr (tBl (eOp dGt (eUn dLen (eVar 1)) (eC (.int 8)))) (tNot (tTru (eUn dAll (eLc nwF [2] (iSeq (eVar 1)) (gN 2) (Pd.tYes) (eCall m_is_level [eVar 2]))))))) (sRaise 2) (sNext))
noncomputable def m_look_name : Fn := fnOf 3 b_look_name
noncomputable def b_look_wish : Sx := sSeq (sAsg (eBm1 isStr (dSplit nwF) (eVar 0) (eC (.str (Str.ofString "/")))) (gN 1)) (sSeq (sAsg (eIf (tBl (eOp dEq (eOp dIx (eVar 1) (eUn dNeg (eC (.int 1)))) (eC (.str (Str.ofString "#"))))) (eSl nwF (eVar 1) none (some (eUn dNeg (eC (.int 1))))) (eVar 1)) (gN 2)) (sIf (tOr (tBl (eOp dEq (eVar 0) (eC (.str (Str.ofString ""))))) (tOr (tBl (eOp dGt (eUn dLen (eVar 1)) (eC (.int 8)))) (tNot (tTru (eUn dAll (eLc nwF [3] (iSeq (eVar 2)) (gN 3) (Pd.tYes) (eOr (eOp dEq (eVar 3) (eC (.str (Str.ofString "+")))) (eCall m_is_level [eVar 3])))))))) (sRaise 2) (sNext)))
noncomputable def m_look_wish : Fn := fnOf 4 b_look_wish
noncomputable def b_text_bytes : Sx := sRet (eOp (dAdd nwF) (eCall m_id_bytes [eUn dLen (eVar 0)]) (eLc nwF [1] (iSeq (eVar 0)) (gN 1) (Pd.tYes) (eUn dOrd (eVar 1))))
noncomputable def m_text_bytes : Fn := fnOf 2 b_text_bytes
noncomputable def b_Bytes_byte : Sx := sSeq (sIf (tTru (eMeth 0 m_Bytes_is_end (eVar 0) [])) (sRaise 4) (sNext)) (sSeq (sSetF 0 1 (eVar 0) (eOp (dAdd nwF) (eFld 0 1 (eVar 0)) (eC (.int 1)))) (sRet (eOp dIx (eFld 0 0 (eVar 0)) (eOp dSub (eFld 0 1 (eVar 0)) (eC (.int 1))))))
noncomputable def m_Bytes_byte : Fn := fnOf 1 b_Bytes_byte
noncomputable def b_law_mix : Sx := sSeq (sAsg (eOp dMod (eOp (dAdd nwF) (eCall m_law_cell [eVar 0, eVar 1]) (eOp dMul (eC (.int 104729)) (eOp (dAdd nwF) (eVar 1) (eC (.int 1))))) (eC (.int 4294967291))) (gN 2)) (sSeq (sAsg (eOp dMod (eOp dPow (eVar 2) (eC (.int 5))) (eC (.int 4294967279))) (gN 2)) (sRet (eOp dMod (eOp (dAdd nwF) (eOp dMul (eOp dFdv (eVar 2) (eC (.int 64))) (eC (.int 69621))) (eVar 2)) (eC (.int 4294967231)))))
noncomputable def m_law_mix : Fn := fnOf 3 b_law_mix
noncomputable def b_law_counted : Sx := sRet (eOp (dAdd nwF) (eLst nwF [eOp dFdv (eUn dLen (eVar 0)) (eC (.int 256)), eOp dMod (eUn dLen (eVar 0)) (eC (.int 256))]) (eCall m_law_codes [eVar 0]))
noncomputable def m_law_counted : Fn := fnOf 1 b_law_counted
noncomputable def b_look_tiding : Sx := sSeq (sExpr (eCall m_look_name [eVar 0])) (sSeq (sExpr (eCall m_look_grade [eVar 2])) (sExpr (eCall m_must [eAnd (eCall m_is_body [eVar 1]) (eOp dIn (eVar 3) (eTup [eC (.bl true), eC (.bl false)]))])))
noncomputable def m_look_tiding : Fn := fnOf 4 b_look_tiding
noncomputable def l_look_some_1 : Sx := sIf (tBl (eOp dEq (eOp dIx (eVar 0) (eC (.int 0))) (eC (.str (Str.ofString "heard"))))) (sExpr (eCall m_must [eOp dIn (eVar 1) (eTup [eC (.int 0), eC (.int 1), eC (.int 2), eC (.int 128)])])) (sIf (tBl (eOp dEq (eOp dIx (eVar 0) (eC (.int 0))) (eC (.str (Str.ofString "drop"))))) (sExpr (eCall m_look_wish [eVar 1])) (sSeq (sExpr (eCall m_must [eOp dEq (eUn dLen (eVar 1)) (eC (.int 2))])) (sSeq (sExpr (eCall m_look_wish [eOp dIx (eVar 1) (eC (.int 0))])) (sExpr (eCall m_look_grade [eOp dIx (eVar 1) (eC (.int 1))])))))
noncomputable def u_look_some_1 : Sx := sExpr (eCall m_must [eAnd (eCall m_is_id [eOp dIx (eVar 0) (eC (.int 1))]) (eChain dLe dLe (eC (.int 1)) (eUn dLen (eOp dIx (eVar 0) (eC (.int 2)))) (eC (.int 10)))])
noncomputable def u_look_some_2 : Sx := sFor (iSeq (eOp dIx (eVar 0) (eC (.int 2)))) (gN 1) (l_look_some_1)
noncomputable def b_look_some : Sx := sSeq u_look_some_1 (u_look_some_2)
noncomputable def m_look_some : Fn := fnOf 2 b_look_some
noncomputable def u_will_bytes_1 : Sx := sAsg (eOp dIx (eVar 0) (eC (.int 3))) (gN 1)
noncomputable def u_will_bytes_2 : Sx := sIf (tBl (eUn dIsN (eVar 1))) (sRet (eLst nwF [eOp dMul (eC (.int 2)) (eUn dInt (eOp dIx (eVar 0) (eC (.int 2))))])) (sNext)
noncomputable def u_will_bytes_3 : Sx := sAsg (eOp (dAdd nwF) (eOp (dAdd nwF) (eOp (dAdd nwF) (eOp dMul (eC (.int 2)) (eUn dInt (eOp dIx (eVar 0) (eC (.int 2))))) (eC (.int 4))) (eOp dMul (eC (.int 8)) (eOp dIx (eVar 1) (eC (.int 2))))) (eOp dMul (eC (.int 32)) (eUn dInt (eOp dIx (eVar 1) (eC (.int 3)))))) (gN 2)
noncomputable def u_will_bytes_4 : Sx := sRet (eOp (dAdd nwF) (eOp (dAdd nwF) (eLst nwF [eVar 2]) (eCall m_text_bytes [eOp dIx (eVar 1) (eC (.int 0))])) (eCall m_text_bytes [eOp dIx (eVar 1) (eC (.int 1))]))
noncomputable def b_will_bytes : Sx := sSeq u_will_bytes_1 (sSeq u_will_bytes_2 (sSeq u_will_bytes_3 (u_will_bytes_4)))
noncomputable def m_will_bytes : Fn := fnOf 3 b_will_bytes
noncomputable def b_Bytes_number : Sx := sSeq (sAsg (eMeth 0 m_Bytes_byte (eVar 0) []) (gN 1)) (sRet (eOp (dAdd nwF) (eOp dMul (eC (.int 256)) (eVar 1)) (eMeth 0 m_Bytes_byte (eVar 0) [])))
noncomputable def m_Bytes_number : Fn := fnOf 2 b_Bytes_number
noncomputable def w_Bytes_text_1 : Sx := sAsg (eMeth 0 m_Bytes_byte (eVar 0) []) (gN 4)
noncomputable def w_Bytes_text_2 : Sx := sIf (tNot (tBl (eChain dLe dLt (eC (.int 32)) (eVar 4) (eC (.int 127))))) (sRaise 4) (sNext)
noncomputable def w_Bytes_text_3 : Sx := sAsg (eOp (dAdd nwF) (eVar 2) (eOp dIx (eC (.str (Str.ofString " !\"#$ &'()*+,-./0123456789:;<=>?@ABCDEFGHIJKLMNOPQRSTUVWXYZ[\\]^_`abcdefghijklmnopqrstuvwxyz{|}~"))) (eOp dSub (eVar 4) (eC (.int 32))))) (gN 2)
noncomputable def l_Bytes_text_1 : Sx := sSeq w_Bytes_text_1 (sSeq w_Bytes_text_2 (w_Bytes_text_3))
noncomputable def u_Bytes_text_1 : Sx := sAsg (eC (.str (Str.ofString ""))) (gN 2)
noncomputable def u_Bytes_text_2 : Sx := sFor (iRange (eVar 1)) (gN 3) (l_Bytes_text_1)
noncomputable def u_Bytes_text_3 : Sx := sRet (eVar 2)
noncomputable def b_Bytes_text : Sx := sSeq u_Bytes_text_1 (sSeq u_Bytes_text_2 (u_Bytes_text_3))
noncomputable def m_Bytes_text : Fn := fnOf 5 b_Bytes_text
noncomputable def b_law_draw : Sx := sSeq (sExpr (eBm1 isLst dApp (eVar 1) (eC (.int 0)))) (sRet (eOp dMod (eOp dFdv (eCall m_law_mix [eVar 0, eUn dLen (eVar 1)]) (eC (.int 8))) (eVar 2)))
noncomputable def m_law_draw : Fn := fnOf 3 b_law_draw
noncomputable def l_law_rest_1 : Sx := sIf (tBl (eOp dEq (eVar 1) (eC (.str (Str.ofString "heard"))))) (sAsg (eOp (dAdd nwF) (eVar 6) (eLst nwF [eVar 7])) (gN 6)) (sAsg (eOp (dAdd nwF) (eVar 6) (eIf (tBl (eOp dEq (eVar 1) (eC (.str (Str.ofString "drop"))))) (eCall m_law_counted [eVar 7]) (eOp (dAdd nwF) (eCall m_law_counted [eOp dIx (eVar 7) (eC (.int 0))]) (eLst nwF [eOp dIx (eVar 7) (eC (.int 1))])))) (gN 6))
noncomputable def u_law_rest_1 : Sx := sAsg (eOp dIx (eVar 0) (eC (.int 0))) (gN 1)
noncomputable def u_law_rest_2 : Sx := sIf (tBl (eOp dEq (eVar 1) (eC (.str (Str.ofString "connect"))))) (sSeq (sAsg (eOp dIx (eVar 0) (eC (.int 3))) (gN 2)) (sSeq (sAsg (eCall m_law_counted [eOp dIx (eVar 0) (eC (.int 1))]) (gN 3)) (sSeq (sIf (tBl (eUn dIsN (eVar 2))) (sRet (eOp (dAdd nwF) (eVar 3) (eLst nwF [eOp dIx (eLst nwF [eC (.int 0), eC (.int 2)]) (eUn dInt (eOp dIx (eVar 0) (eC (.int 2))))]))) (sNext)) (sSeq (sAsg (eOp (dAdd nwF) (eOp (dAdd nwF) (eOp (dAdd nwF) (eOp dIx (eLst nwF [eC (.int 0), eC (.int 2)]) (eUn dInt (eOp dIx (eVar 0) (eC (.int 2))))) (eC (.int 4))) (eOp dMul (eC (.int 8)) (eOp dIx (eVar 2) (eC (.int 2))))) (eOp dIx (eLst nwF [eC (.int 0), eC (.int 32)]) (eUn dInt (eOp dIx (eVar 2) (eC (.int 3)))))) (gN 4)) (sRet (eOp (dAdd nwF) (eOp (dAdd nwF) (eOp (dAdd nwF) (eVar 3) (eLst nwF [eVar 4])) (eCall m_law_counted [eOp dIx (eVar 2) (eC (.int 0))])) (eCall m_law_counted [eOp dIx (eVar 2) (eC (.int 1))]))))))) (sNext)
noncomputable def u_law_rest_3 : Sx := sIf (tBl (eOp dEq (eVar 1) (eC (.str (Str.ofString "greeted"))))) (sRet (eLst nwF [eUn dInt (eOp dIx (eVar 0) (eC (.int 1)))])) (sNext)
noncomputable def u_law_rest_4 : Sx := sIf (tBl (eOp dEq (eVar 1) (eC (.str (Str.ofString "say"))))) (sSeq (sAsg (eIf (tBl (eOp dGt (eOp dIx (eVar 0) (eC (.int 3))) (eC (.int 0)))) (eLst nwF [eOp dFdv (eOp dIx (eVar 0) (eC (.int 6))) (eC (.int 256)), eOp dMod (eOp dIx (eVar 0) (eC (.int 6))) (eC (.int 256))]) (eLst nwF [])) (gN 5)) (sRet (eOp (dAdd nwF) (eOp (dAdd nwF) (eCall m_law_counted [eOp dIx (eVar 0) (eC (.int 1))]) (eVar 5)) (eCall m_law_codes [eOp dIx (eVar 0) (eC (.int 2))])))) (sNext)
noncomputable def u_law_rest_5 : Sx := sAsg (eIf (tBl (eOp dGt (eUn dLen (eVar 0)) (eC (.int 1)))) (eLst nwF [eOp dFdv (eOp dIx (eVar 0) (eC (.int 1))) (eC (.int 256)), eOp dMod (eOp dIx (eVar 0) (eC (.int 1))) (eC (.int 256))]) (eLst nwF [])) (gN 6)
noncomputable def u_law_rest_6 : Sx := sFor (iSeq (eIf (tBl (eOp dGt (eUn dLen (eVar 0)) (eC (.int 2)))) (eOp dIx (eVar 0) (eC (.int 2))) (eTup []))) (gN 7) (l_law_rest_1)
noncomputable def u_law_rest_7 : Sx := sRet (eVar 6)
noncomputable def b_law_rest : Sx := sSeq u_law_rest_1 (sSeq u_law_rest_2 (sSeq u_law_rest_3 (sSeq u_law_rest_4 (sSeq u_law_rest_5 (sSeq u_law_rest_6 (u_law_rest_7))))))
noncomputable def m_law_rest : Fn := fnOf 8 b_law_rest
noncomputable def b_look_say : Sx := sSeq (sExpr (eCall m_look_tiding [eOp dIx (eVar 0) (eC (.int 1)), eOp dIx (eVar 0) (eC (.int 2)), eOp dIx (eVar 0) (eC (.int 3)), eOp dIx (eVar 0) (eC (.int 4))])) (sSeq (sExpr (eCall m_must [eOp dIn (eOp dIx (eVar 0) (eC (.int 5))) (eTup [eC (.bl true), eC (.bl false)])])) (sExpr (eCall m_must [eIf (tBl (eOp dGt (eOp dIx (eVar 0) (eC (.int 3))) (eC (.int 0)))) (eCall m_is_id [eOp dIx (eVar 0) (eC (.int 6))]) (eAnd (eOp dEq (eOp dIx (eVar 0) (eC (.int 6))) (eC (.int 0))) (eNot (eOp dIx (eVar 0) (eC (.int 5)))))])))
noncomputable def m_look_say : Fn := fnOf 1 b_look_say
noncomputable def l_rest_bytes_1 : Sx := sIf (tBl (eOp dEq (eVar 1) (eC (.str (Str.ofString "heard"))))) (sExpr (eBm1 isLst dApp (eVar 3) (eVar 4))) (sIf (tBl (eOp dEq (eVar 1) (eC (.str (Str.ofString "drop"))))) (sExpr (eBm1 isLst dExt (eVar 3) (eCall m_text_bytes [eVar 4]))) (sExpr (eBm1 isLst dExt (eVar 3) (eOp (dAdd nwF) (eCall m_text_bytes [eOp dIx (eVar 4) (eC (.int 0))]) (eLst nwF [eOp dIx (eVar 4) (eC (.int 1))])))))
noncomputable def u_rest_bytes_1 : Sx := sAsg (eOp dIx (eVar 0) (eC (.int 0))) (gN 1)
noncomputable def u_rest_bytes_2 : Sx := sIf (tBl (eOp dEq (eVar 1) (eC (.str (Str.ofString "connect"))))) (sRet (eOp (dAdd nwF) (eCall m_text_bytes [eOp dIx (eVar 0) (eC (.int 1))]) (eCall m_will_bytes [eVar 0]))) (sNext)
noncomputable def u_rest_bytes_3 : Sx := sIf (tBl (eOp dEq (eVar 1) (eC (.str (Str.ofString "greeted"))))) (sRet (eLst nwF [eUn dInt (eOp dIx (eVar 0) (eC (.int 1)))])) (sNext)
noncomputable def u_rest_bytes_4 : Sx := sIf (tBl (eOp dEq (eVar 1) (eC (.str (Str.ofString "say"))))) (sSeq (sAsg (eIf (tBl (eOp dGt (eOp dIx (eVar 0) (eC (.int 3))) (eC (.int 0)))) (eCall m_id_bytes [eOp dIx (eVar 0) (eC (.int 6))]) (eLst nwF [])) (gN 2)) (sRet (eOp (dAdd nwF) (eOp (dAdd nwF) (eCall m_text_bytes [eOp dIx (eVar 0) (eC (.int 1))]) (eVar 2)) (eLc nwF [5] (iSeq (eOp dIx (eVar 0) (eC (.int 2)))) (gN 5) (Pd.tYes) (eUn dOrd (eVar 5)))))) (sNext)
noncomputable def u_rest_bytes_5 : Sx := sIf (tBl (eOp dEq (eUn dLen (eVar 0)) (eC (.int 1)))) (sRet (eLst nwF [])) (sNext)
noncomputable def u_rest_bytes_6 : Sx := sAsg (eCall m_id_bytes [eOp dIx (eVar 0) (eC (.int 1))]) (gN 3)
noncomputable def u_rest_bytes_7 : Sx := sFor (iSeq (eIf (tBl (eOp dEq (eUn dLen (eVar 0)) (eC (.int 3)))) (eOp dIx (eVar 0) (eC (.int 2))) (eTup []))) (gN 4) (l_rest_bytes_1)
noncomputable def u_rest_bytes_8 : Sx := sRet (eVar 3)
noncomputable def b_rest_bytes : Sx := sSeq u_rest_bytes_1 (sSeq u_rest_bytes_2 (sSeq u_rest_bytes_3 (sSeq u_rest_bytes_4 (sSeq u_rest_bytes_5 (sSeq u_rest_bytes_6 (sSeq u_rest_bytes_7 (u_rest_bytes_8)))))))
noncomputable def m_rest_bytes : Fn := fnOf 6 b_rest_bytes
noncomputable def b_Bytes_counted : Sx := sRet (eMeth 0 m_Bytes_text (eVar 0) [eMeth 0 m_Bytes_number (eVar 0) []])
noncomputable def m_Bytes_counted : Fn := fnOf 1 b_Bytes_counted
noncomputable def b_law_pick : Sx := sRet (eOp dIx (eVar 2) (eCall m_law_draw [eVar 0, eVar 1, eUn dLen (eVar 2)]))
noncomputable def m_law_pick : Fn := fnOf 3 b_law_pick
noncomputable def b_law_bytes : Sx := sSeq (sAsg (eLst nwF [eC (.str (Str.ofString "connect")), eC (.str (Str.ofString "greeted")), eC (.str (Str.ofString "say")), eC (.str (Str.ofString "got")), eC (.str (Str.ofString "held")), eC (.str (Str.ofString "free")), eC (.str (Str.ofString "done")), eC (.str (Str.ofString "hear")), eC (.str (Str.ofString "heard")), eC (.str (Str.ofString "drop")), eC (.str (Str.ofString "dropped")), eC (.str (Str.ofString "ping"))]) (gN 1)) (sSeq (sAsg (eOp dMul (eC (.int 16)) (eOp (dAdd nwF) (eC (.int 1)) (eBm1 isLst dIndex (eOp (dAdd nwF) (eVar 1) (eLst nwF [eC (.str (Str.ofString "pong")), eC (.str (Str.ofString "leave"))])) (eOp dIx (eVar 0) (eC (.int 0)))))) (gN 2)) (sSeq (sIf (tBl (eOp dEq (eOp dIx (eVar 0) (eC (.int 0))) (eC (.str (Str.ofString "say"))))) (sAsg (eOp (dAdd nwF) (eOp (dAdd nwF) (eOp (dAdd nwF) (eVar 2) (eOp dMul (eC (.int 8)) (eUn dInt (eOp dIx (eVar 0) (eC (.int 5)))))) (eOp dMul (eC (.int 2)) (eOp dIx (eVar 0) (eC (.int 3))))) (eUn dInt (eOp dIx (eVar 0) (eC (.int 4))))) (gN 2)) (sNext)) (sSeq (sAsg (eCall m_law_rest [eVar 0]) (gN 3)) (sSeq (sAsg (eUn dLen (eVar 3)) (gN 4)) (sRet (eOp (dAdd nwF) (eOp (dAdd nwF) (eLst nwF [eVar 2]) (eIf (tBl (eOp dLt (eVar 4) (eC (.int 128)))) (eLst nwF [eVar 4]) (eLst nwF [eOp (dAdd nwF) (eOp dMod (eVar 4) (eC (.int 128))) (eC (.int 128)), eOp dFdv (eVar 4) (eC (.int 128))]))) (eVar 3)))))))
noncomputable def m_law_bytes : Fn := fnOf 5 b_law_bytes
noncomputable def u_look_whole_1 : Sx := sExpr (eCall m_must [eAnd (eOp dGt (eUn dLen (eVar 0)) (eC (.int 0))) (eOp dEq (eUn dLen (eVar 0)) (eKget2 c_LENGTHS (eOp dIx (eVar 0) (eC (.int 0))) (eKget2 c_MORE_LENGTHS (eOp dIx (eVar 0) (eC (.int 0))) (eC (.int 0)))))])
noncomputable def u_look_whole_2 : Sx := sAsg (eOp dIx (eVar 0) (eC (.int 0))) (gN 1)
noncomputable def u_look_whole_3 : Sx := sIf (tBl (eOp dEq (eVar 1) (eC (.str (Str.ofString "connect"))))) (sSeq (sExpr (eCall m_look_hearer [eOp dIx (eVar 0) (eC (.int 1))])) (sSeq (sExpr (eCall m_must [eOp dIn (eOp dIx (eVar 0) (eC (.int 2))) (eTup [eC (.bl true), eC (.bl false)])])) (sIf (tBl (eUn dNotN (eOp dIx (eVar 0) (eC (.int 3))))) (sSeq (sExpr (eCall m_must [eOp dEq (eUn dLen (eOp dIx (eVar 0) (eC (.int 3)))) (eC (.int 4))])) (sExpr (eCall m_look_tiding [eOp dIx (eOp dIx (eVar 0) (eC (.int 3))) (eC (.int 0)), eOp dIx (eOp dIx (eVar 0) (eC (.int 3))) (eC (.int 1)), eOp dIx (eOp dIx (eVar 0) (eC (.int 3))) (eC (.int 2)), eOp dIx (eOp dIx (eVar 0) (eC (.int 3))) (eC (.int 3))]))) (sNext)))) (sIf (tBl (eOp dEq (eVar 1) (eC (.str (Str.ofString "greeted"))))) (sExpr (eCall m_must [eOp dIn (eOp dIx (eVar 0) (eC (.int 1))) (eTup [eC (.bl true), eC (.bl false)])])) (sIf (tBl (eOp dEq (eVar 1) (eC (.str (Str.ofString "say"))))) (sExpr (eCall m_look_say [eVar 0])) (sIf (tBl (eOp dIn (eVar 1) (eTup [eC (.str (Str.ofString "hear")), eC (.str (Str.ofString "heard")), eC (.str (Str.ofString "drop"))]))) (sExpr (eCall m_look_some [eVar 0])) (sIf (tBl (eOp dEq (eUn dLen (eVar 0)) (eC (.int 2)))) (sExpr (eCall m_must [eCall m_is_id [eOp dIx (eVar 0) (eC (.int 1))]])) (sNext)))))
noncomputable def b_look_whole : Sx := sSeq u_look_whole_1 (sSeq u_look_whole_2 (u_look_whole_3))
noncomputable def m_look_whole : Fn := fnOf 2 b_look_whole
noncomputable def u_read_connect_1 : Sx := sAsg (eMeth 0 m_Bytes_counted (eVar 0) []) (gN 1)
noncomputable def u_read_connect_2 : Sx := sAsg (eMeth 0 m_Bytes_byte (eVar 0) []) (gN 2)
noncomputable def u_read_connect_3 : Sx := sAsg (eOp dEq (eOp dMod (eOp dFdv (eVar 2) (eC (.int 2))) (eC (.int 2))) (eC (.int 1))) (gN 3)
noncomputable def u_read_connect_4 : Sx := sIf (tBl (eOp dEq (eOp dMod (eOp dFdv (eVar 2) (eC (.int 4))) (eC (.int 2))) (eC (.int 0)))) (sRet (eTup [eC (.str (Str.ofString "connect")), eVar 1, eVar 3, eC .non])) (sNext)
noncomputable def u_read_connect_5 : Sx := sAsg (eMeth 0 m_Bytes_counted (eVar 0) []) (gN 4)
noncomputable def u_read_connect_6 : Sx := sRet (eTup [eC (.str (Str.ofString "connect")), eVar 1, eVar 3, eTup [eVar 4, eMeth 0 m_Bytes_counted (eVar 0) [], eOp dMod (eOp dFdv (eVar 2) (eC (.int 8))) (eC (.int 4)), eOp dEq (eOp dMod (eOp dFdv (eVar 2) (eC (.int 32))) (eC (.int 2))) (eC (.int 1))]])
noncomputable def b_read_connect : Sx := sSeq u_read_connect_1 (sSeq u_read_connect_2 (sSeq u_read_connect_3 (sSeq u_read_connect_4 (sSeq u_read_connect_5 (u_read_connect_6)))))
noncomputable def m_read_connect : Fn := fnOf 5 b_read_connect
noncomputable def u_read_say_1 : Sx := sAsg (eMeth 0 m_Bytes_counted (eVar 0) []) (gN 2)
noncomputable def u_read_say_2 : Sx := sAsg (eOp dMod (eOp dFdv (eVar 1) (eC (.int 2))) (eC (.int 4))) (gN 3)
noncomputable def u_read_say_3 : Sx := sAsg (eIf (tBl (eOp dGt (eVar 3) (eC (.int 0)))) (eMeth 0 m_Bytes_number (eVar 0) []) (eC (.int 0))) (gN 4)
noncomputable def u_read_say_4 : Sx := sAsg (eMeth 0 m_Bytes_text (eVar 0) [eOp dSub (eUn dLen (eFld 0 0 (eVar 0))) (eFld 0 1 (eVar 0))]) (gN 5)
noncomputable def u_read_say_5 : Sx := sRet (eTup [eC (.str (Str.ofString "say")), eVar 2, eVar 5, eVar 3, eOp dEq (eOp dMod (eVar 1) (eC (.int 2))) (eC (.int 1)), eOp dEq (eOp dFdv (eVar 1) (eC (.int 8))) (eC (.int 1)), eVar 4])
noncomputable def b_read_say : Sx := sSeq u_read_say_1 (sSeq u_read_say_2 (sSeq u_read_say_3 (sSeq u_read_say_4 (u_read_say_5))))
noncomputable def m_read_say : Fn := fnOf 6 b_read_say
noncomputable def l_read_some_1 : Sx := sIf (tBl (eOp dEq (eVar 1) (eC (.str (Str.ofString "heard"))))) (sExpr (eBm1 isLst dApp (eVar 3) (eMeth 0 m_Bytes_byte (eVar 0) []))) (sIf (tBl (eOp dEq (eVar 1) (eC (.str (Str.ofString "drop"))))) (sExpr (eBm1 isLst dApp (eVar 3) (eMeth 0 m_Bytes_counted (eVar 0) []))) (sSeq (sAsg (eMeth 0 m_Bytes_counted (eVar 0) []) (gN 4)) (sExpr (eBm1 isLst dApp (eVar 3) (eTup [eVar 4, eMeth 0 m_Bytes_byte (eVar 0) []])))))
noncomputable def u_read_some_1 : Sx := sAsg (eMeth 0 m_Bytes_number (eVar 0) []) (gN 2)
noncomputable def u_read_some_2 : Sx := sAsg (eLst nwM []) (gN 3)
noncomputable def u_read_some_3 : Sx := whGo (tNot (tTru (eMeth 0 m_Bytes_is_end (eVar 0) []))) (l_read_some_1) 100000
noncomputable def u_read_some_4 : Sx := sRet (eTup [eVar 1, eVar 2, eUn dTuple (eVar 3)])
noncomputable def b_read_some : Sx := sSeq u_read_some_1 (sSeq u_read_some_2 (sSeq u_read_some_3 (u_read_some_4)))
noncomputable def m_read_some : Fn := fnOf 5 b_read_some
noncomputable def l_law_signs_1 : Sx := sSeq (sAsg (eCall m_law_pick [eVar 0, eVar 1, eVar 4]) (gN 7)) (sAsg (eOp (dAdd nwF) (eVar 5) (eIf (tAnd (tBl (eOp dIn (eVar 7) (eC (.str (Str.ofString "+#/"))))) (tNot (tTru (eVar 3)))) (eC (.str (Str.ofString "x"))) (eVar 7))) (gN 5))
noncomputable def b_law_signs : Sx := sSeq (sAsg (eC (.str (Str.ofString " !#$&'()*+,-./0123456789:;<=>?@ABCXYZ[]^_abcdefghijklmnopqrstuvwxyz{|}~"))) (gN 4)) (sSeq (sAsg (eC (.str (Str.ofString ""))) (gN 5)) (sSeq (sFor (iRange (eVar 2)) (gN 6) (l_law_signs_1)) (sRet (eVar 5))))
noncomputable def m_law_signs : Fn := fnOf 8 b_law_signs
noncomputable def l_law_hearer_1 : Sx := sAsg (eOp (dAdd nwF) (eVar 3) (eOp dIx (eVar 2) (eCall m_law_draw [eVar 0, eVar 1, eC (.int 36)]))) (gN 3)
noncomputable def b_law_hearer : Sx := sSeq (sAsg (eC (.str (Str.ofString "abcdefghijklmnopqrstuvwxyz0123456789"))) (gN 2)) (sSeq (sAsg (eC (.str (Str.ofString ""))) (gN 3)) (sSeq (sFor (iRange (eOp (dAdd nwF) (eC (.int 1)) (eCall m_law_pick [eVar 0, eVar 1, eLst nwF [eC (.int 0), eC (.int 1), eC (.int 3), eC (.int 11)]]))) (gN 4) (l_law_hearer_1)) (sRet (eVar 3))))
noncomputable def m_law_hearer : Fn := fnOf 5 b_law_hearer
noncomputable def b_law_id : Sx := sRet (eOp (dAdd nwF) (eC (.int 1)) (eCall m_law_draw [eVar 0, eVar 1, eCall m_law_pick [eVar 0, eVar 1, eLst nwF [eC (.int 3), eC (.int 255), eC (.int 300), eC (.int 65535)]]]))
noncomputable def m_law_id : Fn := fnOf 2 b_law_id
noncomputable def b_law_bad : Sx := sSeq (sAsg (eLst nwF [eTup [], eTup [eC (.str (Str.ofString "none"))], eTup [eC (.str (Str.ofString "ping")), eC (.int 1)], eTup [eC (.str (Str.ofString "got")), eC (.int 0)], eTup [eC (.str (Str.ofString "done")), eC (.int 65536)], eTup [eC (.str (Str.ofString "say")), eC (.str (Str.ofString "a")), eC (.str (Str.ofString "x")), eC (.int 0), eC (.bl true), eC (.bl false), eC (.int 1)], eTup [eC (.str (Str.ofString "bad"))]]) (gN 2)) (sSeq (sAsg (eOp (dAdd nwF) (eVar 2) (eLst nwF [eTup [eC (.str (Str.ofString "say")), eC (.str (Str.ofString "a")), eC (.str (Str.ofString "x")), eC (.int 1), eC (.bl true), eC (.bl false), eC (.int 0)], eTup [eC (.str (Str.ofString "say")), eC (.str (Str.ofString "a")), eC (.str (Str.ofString "x")), eC (.int 0), eC (.bl false), eC (.bl true), eC (.int 0)], eTup [eC (.str (Str.ofString "got"))]])) (gN 2)) (sSeq (sAsg (eOp (dAdd nwF) (eVar 2) (eLst nwF [eTup [eC (.str (Str.ofString "say")), eC (.str (Str.ofString "a/+")), eC (.str (Str.ofString "x")), eC (.int 1), eC (.bl true), eC (.bl false), eC (.int 3)], eTup [eC (.str (Str.ofString "say")), eC (.str (Str.ofString "a")), eC (.str (Str.ofString "x")), eC (.int 3), eC (.bl true), eC (.bl false), eC (.int 3)]])) (gN 2)) (sSeq (sAsg (eOp (dAdd nwF) (eVar 2) (eLst nwF [eTup [eC (.str (Str.ofString "say")), eC (.str (Str.ofString "a")), eOp dRepS (eC (.str (Str.ofString "x"))) (eC (.int 301)), eC (.int 1), eC (.bl true), eC (.bl false), eC (.int 3)], eTup [eC (.str (Str.ofString "connect")), eC (.str (Str.ofString "")), eC (.bl true), eC .non], eTup [eC (.str (Str.ofString "hear")), eC (.int 1), eTup []]])) (gN 2)) (sSeq (sAsg (eOp (dAdd nwF) (eVar 2) (eLst nwF [eTup [eC (.str (Str.ofString "connect")), eC (.str (Str.ofString "a")), eC (.bl true), eTup [eC (.str (Str.ofString "a")), eC (.str (Str.ofString "x")), eC (.int 1)]], eTup [eC (.str (Str.ofString "connect")), eC (.str (Str.ofString "a")), eC (.bl true), eTup [eC (.str (Str.ofString "#")), eC (.str (Str.ofString "x")), eC (.int 1), eC (.bl true)]]])) (gN 2)) (sSeq (sAsg (eOp (dAdd nwF) (eVar 2) (eLst nwF [eTup [eC (.str (Str.ofString "hear")), eC (.int 1), eTup [eTup [eC (.str (Str.ofString "a")), eC (.int 3)]]], eTup [eC (.str (Str.ofString "hear")), eC (.int 1), eTup [eTup [eC (.str (Str.ofString "a")), eC (.int 1), eC (.int 1)]]], eTup [eC (.str (Str.ofString "hear")), eC (.int 1), eTup [eTup [eC (.str (Str.ofString "#a")), eC (.int 1)]]], eTup [eC (.str (Str.ofString "drop")), eC (.int 1), eTup [eC (.str (Str.ofString ""))]]])) (gN 2)) (sSeq (sAsg (eOp (dAdd nwF) (eVar 2) (eLst nwF [eTup [eC (.str (Str.ofString "heard")), eC (.int 1), eTup [eC (.int 3)]], eTup [eC (.str (Str.ofString "heard")), eC (.int 1), eOp dRepT (eTup [eC (.int 0)]) (eC (.int 11))], eTup [eC (.str (Str.ofString "drop")), eC (.int 0), eTup [eC (.str (Str.ofString "a"))]], eTup [eC (.str (Str.ofString "connect")), eC (.str (Str.ofString "A")), eC (.bl false), eC .non]])) (gN 2)) (sRet (eCall m_law_pick [eVar 0, eVar 1, eOp (dAdd nwF) (eVar 2) (eLst nwF [eTup [eC (.str (Str.ofString "close"))], eTup [eC (.str (Str.ofString "dropped")), eUn dNeg (eC (.int 1))], eTup [eC (.str (Str.ofString "say")), eC (.str (Str.ofString "")), eC (.str (Str.ofString "")), eC (.int 0), eC (.bl false), eC (.bl false), eC (.int 0)]])]))))))))
noncomputable def m_law_bad : Fn := fnOf 3 b_law_bad
noncomputable def b_look_packet : Sx := sTryR [2] [1, 3, 4, 5, 6] 3 (sExpr (eCall m_look_whole [eVar 0]))
noncomputable def m_look_packet : Fn := fnOf 1 b_look_packet
noncomputable def b_read_rest : Sx := sSeq (sIf (tBl (eOp dEq (eVar 0) (eC (.str (Str.ofString "connect"))))) (sRet (eCall m_read_connect [eVar 2])) (sNext)) (sSeq (sIf (tBl (eOp dEq (eVar 0) (eC (.str (Str.ofString "greeted"))))) (sRet (eTup [eC (.str (Str.ofString "greeted")), eOp dEq (eMeth 0 m_Bytes_byte (eVar 2) []) (eC (.int 1))])) (sNext)) (sSeq (sIf (tBl (eOp dEq (eVar 0) (eC (.str (Str.ofString "say"))))) (sRet (eCall m_read_say [eVar 2, eVar 1])) (sNext)) (sSeq (sIf (tBl (eOp dIn (eVar 0) (eTup [eC (.str (Str.ofString "hear")), eC (.str (Str.ofString "heard")), eC (.str (Str.ofString "drop"))]))) (sRet (eCall m_read_some [eVar 2, eVar 0])) (sNext)) (sRet (eIf (tBl (eOp dIn (eVar 0) (eC (.lsk (c_MORE_KINDS.map Dt.str))))) (eTup [eVar 0]) (eTup [eVar 0, eMeth 0 m_Bytes_number (eVar 2) []]))))))
noncomputable def m_read_rest : Fn := fnOf 3 b_read_rest
noncomputable def b_law_level : Sx := sSeq (sAsg (eCall m_law_draw [eVar 0, eVar 1, eC (.int 8)]) (gN 2)) (sSeq (sIf (tBl (eOp dLt (eVar 2) (eC (.int 5)))) (sRet (eCall m_law_pick [eVar 0, eVar 1, eLst nwF [eC (.str (Str.ofString "a")), eC (.str (Str.ofString "b")), eC (.str (Str.ofString "")), eC (.str (Str.ofString "$s")), eC (.str (Str.ofString "ab"))]])) (sNext)) (sRet (eCall m_law_signs [eVar 0, eVar 1, eCall m_law_pick [eVar 0, eVar 1, eLst nwF [eC (.int 1), eC (.int 2), eC (.int 5), eC (.int 12)]], eC (.bl false)])))
noncomputable def m_law_level : Fn := fnOf 3 b_law_level
noncomputable def b_law_body : Sx := sRet (eCall m_law_signs [eVar 0, eVar 1, eCall m_law_pick [eVar 0, eVar 1, eLst nwF [eC (.int 0), eC (.int 1), eC (.int 3), eC (.int 9), eC (.int 30)]], eC (.bl true)])
noncomputable def m_law_body : Fn := fnOf 2 b_law_body
noncomputable def u_written_packet_1 : Sx := sExpr (eCall m_look_packet [eVar 0])
noncomputable def u_written_packet_2 : Sx := sAsg (eC (.int 0)) (gN 1)
noncomputable def u_written_packet_3 : Sx := sIf (tBl (eOp dEq (eOp dIx (eVar 0) (eC (.int 0))) (eC (.str (Str.ofString "say"))))) (sAsg (eOp (dAdd nwF) (eOp (dAdd nwF) (eOp dMul (eC (.int 8)) (eUn dInt (eOp dIx (eVar 0) (eC (.int 5))))) (eOp dMul (eC (.int 2)) (eOp dIx (eVar 0) (eC (.int 3))))) (eUn dInt (eOp dIx (eVar 0) (eC (.int 4))))) (gN 1)) (sNext)
noncomputable def u_written_packet_4 : Sx := sAsg (eCall m_rest_bytes [eVar 0]) (gN 2)
noncomputable def u_written_packet_5 : Sx := sRet (eOp (dAdd nwF) (eOp (dAdd nwF) (eLst nwF [eOp (dAdd nwF) (eOp dMul (eC (.int 16)) (eCall m_kind_number [eOp dIx (eVar 0) (eC (.int 0))])) (eVar 1)]) (eCall m_length_bytes [eUn dLen (eVar 2)])) (eVar 2))
noncomputable def b_written_packet : Sx := sSeq u_written_packet_1 (sSeq u_written_packet_2 (sSeq u_written_packet_3 (sSeq u_written_packet_4 (u_written_packet_5))))
noncomputable def m_written_packet : Fn := fnOf 3 b_written_packet
noncomputable def b_law_name : Sx := sSeq (sAsg (eLc nwF [3] (iRange (eOp (dAdd nwF) (eC (.int 1)) (eCall m_law_pick [eVar 0, eVar 1, eLst nwF [eC (.int 0), eC (.int 1), eC (.int 2), eC (.int 7)]]))) (gN 3) (Pd.tYes) (eCall m_law_level [eVar 0, eVar 1])) (gN 2)) (sRet (eIf (tBl (eOp dNe (eVar 2) (eLst nwF [eC (.str (Str.ofString ""))]))) (eBm1 isStr dJoin (eC (.str (Str.ofString "/"))) (eVar 2)) (eC (.str (Str.ofString "a")))))
noncomputable def m_law_name : Fn := fnOf 4 b_law_name
noncomputable def u_law_wish_1 : Sx := sAsg (eLc nwM [3] (iRange (eOp (dAdd nwF) (eC (.int 1)) (eCall m_law_draw [eVar 0, eVar 1, eC (.int 4)]))) (gN 3) (Pd.tYes) (eCall m_law_pick [eVar 0, eVar 1, eLst nwF [eCall m_law_level [eVar 0, eVar 1], eC (.str (Str.ofString "+"))]])) (gN 2)
noncomputable def u_law_wish_2 : Sx := sIf (tBl (eOp dEq (eCall m_law_draw [eVar 0, eVar 1, eC (.int 3)]) (eC (.int 0)))) (sSetI (eVar 2) (eUn dNeg (eC (.int 1))) (eC (.str (Str.ofString "#")))) (sNext)
noncomputable def u_law_wish_3 : Sx := sRet (eIf (tBl (eOp dNe (eVar 2) (eLst nwF [eC (.str (Str.ofString ""))]))) (eBm1 isStr dJoin (eC (.str (Str.ofString "/"))) (eVar 2)) (eC (.str (Str.ofString "+"))))
noncomputable def b_law_wish : Sx := sSeq u_law_wish_1 (sSeq u_law_wish_2 (u_law_wish_3))
noncomputable def m_law_wish : Fn := fnOf 4 b_law_wish
noncomputable def u_read_packet_1 : Sx := sAsg (eCall m_head_of [eVar 0]) (gN 1)
noncomputable def u_read_packet_2 : Sx := sIf (tOr (tBl (eUn dIsN (eVar 1))) (tBl (eOp dNe (eUn dLen (eVar 0)) (eOp (dAdd nwF) (eOp dIx (eVar 1) (eC (.int 1))) (eOp dIx (eVar 1) (eC (.int 2))))))) (sRaise 4) (sNext)
noncomputable def u_read_packet_3 : Sx := sAsg (eMake 0 m_Bytes_init [eVar 0]) (gN 2)
noncomputable def u_read_packet_4 : Sx := sSetF 0 1 (eVar 2) (eOp dIx (eVar 1) (eC (.int 2)))
noncomputable def u_read_packet_5 : Sx := sAsg (eCall m_read_rest [eOp dIx (eC (.lst ((c_KINDS ++ c_MORE_KINDS).map Dt.str))) (eOp dFdv (eOp dIx (eVar 1) (eC (.int 0))) (eC (.int 16))), eOp dSub (eOp dIx (eVar 1) (eC (.int 0))) (eOp dMul (eOp dFdv (eOp dIx (eVar 1) (eC (.int 0))) (eC (.int 16))) (eC (.int 16))), eVar 2]) (gN 3)
noncomputable def u_read_packet_6 : Sx := sAsg (eC .non) (gN 4)
noncomputable def u_read_packet_7 : Sx := sTryOk [1, 2, 4, 5, 6] (sAsg (eCall m_written_packet [eVar 3]) (gN 4))
noncomputable def u_read_packet_8 : Sx := sIf (tBl (eOp dNe (eVar 4) (eVar 0))) (sRaise 4) (sNext)
noncomputable def u_read_packet_9 : Sx := sRet (eVar 3)
noncomputable def b_read_packet : Sx := sSeq u_read_packet_1 (sSeq u_read_packet_2 (sSeq u_read_packet_3 (sSeq u_read_packet_4 (sSeq u_read_packet_5 (sSeq u_read_packet_6 (sSeq u_read_packet_7 (sSeq u_read_packet_8 (u_read_packet_9))))))))
noncomputable def m_read_packet : Fn := fnOf 5 b_read_packet
noncomputable def b_law_tiding : Sx := sSeq (sAsg (eCall m_law_body [eVar 0, eVar 1]) (gN 2)) (sSeq (sIf (tBl (eOp dEq (eCall m_law_draw [eVar 0, eVar 1, eC (.int 6)]) (eC (.int 0)))) (sAsg (eOp (dAdd nwF) (eVar 2) (eOp dRepS (eC (.str (Str.ofString "x"))) (eCall m_law_pick [eVar 0, eVar 1, eLst nwF [eC (.int 97), eC (.int 110), eC (.int 130), eC (.int 270)]]))) (gN 2)) (sNext)) (sRet (eTup [eCall m_law_name [eVar 0, eVar 1], eVar 2, eCall m_law_draw [eVar 0, eVar 1, eC (.int 3)], eOp dEq (eCall m_law_draw [eVar 0, eVar 1, eC (.int 2)]) (eC (.int 0))])))
noncomputable def m_law_tiding : Fn := fnOf 3 b_law_tiding
noncomputable def w_law_packet_1 : Sx := sAsg (eCall m_law_wish [eVar 0, eVar 1]) (gN 9)
noncomputable def w_law_packet_2 : Sx := sAsg (eCall m_law_draw [eVar 0, eVar 1, eC (.int 3)]) (gN 10)
noncomputable def w_law_packet_3 : Sx := sExpr (eBm1 isLst dApp (eVar 7) (eOp dDget (eDisp [Str.ofString "hear", Str.ofString "heard", Str.ofString "drop"] [eTup [eVar 9, eVar 10], eCall m_law_pick [eVar 0, eVar 1, eLst nwF [eVar 10, eC (.int 128)]], eVar 9]) (eVar 3)))
noncomputable def l_law_packet_1 : Sx := sSeq w_law_packet_1 (sSeq w_law_packet_2 (w_law_packet_3))
noncomputable def u_law_packet_1 : Sx := sAsg (eLst nwF [eC (.str (Str.ofString "connect")), eC (.str (Str.ofString "say")), eC (.str (Str.ofString "say")), eC (.str (Str.ofString "hear")), eC (.str (Str.ofString "heard")), eC (.str (Str.ofString "drop")), eC (.str (Str.ofString "greeted")), eC (.str (Str.ofString "leave")), eC (.str (Str.ofString "ping")), eC (.str (Str.ofString "pong"))]) (gN 2)
noncomputable def u_law_packet_2 : Sx := sAsg (eCall m_law_pick [eVar 0, eVar 1, eVar 2]) (gN 3)
noncomputable def u_law_packet_3 : Sx := sIf (tBl (eOp dEq (eVar 3) (eC (.str (Str.ofString "connect"))))) (sSeq (sAsg (eIf (tBl (eOp dEq (eCall m_law_draw [eVar 0, eVar 1, eC (.int 2)]) (eC (.int 0)))) (eCall m_law_tiding [eVar 0, eVar 1]) (eC .non)) (gN 4)) (sRet (eTup [eC (.str (Str.ofString "connect")), eCall m_law_hearer [eVar 0, eVar 1], eOp dEq (eCall m_law_draw [eVar 0, eVar 1, eC (.int 2)]) (eC (.int 0)), eVar 4]))) (sNext)
noncomputable def u_law_packet_4 : Sx := sIf (tBl (eOp dEq (eVar 3) (eC (.str (Str.ofString "say"))))) (sSeq (sAsg (eCall m_law_tiding [eVar 0, eVar 1]) (gN 5)) (sSeq (sAsg (eIf (tBl (eOp dGt (eOp dIx (eVar 5) (eC (.int 2))) (eC (.int 0)))) (eCall m_law_id [eVar 0, eVar 1]) (eC (.int 0))) (gN 6)) (sRet (eOp (dAdd nwF) (eOp (dAdd nwF) (eTup [eC (.str (Str.ofString "say"))]) (eVar 5)) (eTup [eAnd (eOp dGt (eVar 6) (eC (.int 0))) (eOp dEq (eCall m_law_draw [eVar 0, eVar 1, eC (.int 2)]) (eC (.int 0))), eVar 6]))))) (sNext)
noncomputable def u_law_packet_5 : Sx := sIf (tBl (eOp dIn (eVar 3) (eTup [eC (.str (Str.ofString "hear")), eC (.str (Str.ofString "heard")), eC (.str (Str.ofString "drop"))]))) (sSeq (sAsg (eLst nwM []) (gN 7)) (sSeq (sFor (iRange (eOp (dAdd nwF) (eC (.int 1)) (eCall m_law_pick [eVar 0, eVar 1, eLst nwF [eC (.int 0), eC (.int 1), eC (.int 2), eC (.int 9)]]))) (gN 8) (l_law_packet_1)) (sRet (eTup [eVar 3, eCall m_law_id [eVar 0, eVar 1], eUn dTuple (eVar 7)])))) (sNext)
noncomputable def u_law_packet_6 : Sx := sIf (tBl (eOp dEq (eVar 3) (eC (.str (Str.ofString "greeted"))))) (sRet (eTup [eC (.str (Str.ofString "greeted")), eOp dEq (eCall m_law_draw [eVar 0, eVar 1, eC (.int 2)]) (eC (.int 0))])) (sNext)
noncomputable def u_law_packet_7 : Sx := sIf (tAnd (tBl (eOp dEq (eVar 3) (eC (.str (Str.ofString "leave"))))) (tBl (eOp dEq (eCall m_law_draw [eVar 0, eVar 1, eC (.int 2)]) (eC (.int 0))))) (sRet (eTup [eC (.str (Str.ofString "leave"))])) (sNext)
noncomputable def u_law_packet_8 : Sx := sAsg (eLst nwF [eC (.str (Str.ofString "got")), eC (.str (Str.ofString "held")), eC (.str (Str.ofString "free")), eC (.str (Str.ofString "done")), eC (.str (Str.ofString "dropped"))]) (gN 2)
noncomputable def u_law_packet_9 : Sx := sRet (eIf (tBl (eOp dEq (eVar 3) (eC (.str (Str.ofString "leave"))))) (eTup [eCall m_law_pick [eVar 0, eVar 1, eVar 2], eCall m_law_id [eVar 0, eVar 1]]) (eTup [eVar 3]))
noncomputable def b_law_packet : Sx := sSeq u_law_packet_1 (sSeq u_law_packet_2 (sSeq u_law_packet_3 (sSeq u_law_packet_4 (sSeq u_law_packet_5 (sSeq u_law_packet_6 (sSeq u_law_packet_7 (sSeq u_law_packet_8 (u_law_packet_9))))))))
noncomputable def m_law_packet : Fn := fnOf 11 b_law_packet
noncomputable def u_law_told_1 : Sx := sAsg (eC .non) (gN 2)
noncomputable def u_law_told_2 : Sx := sAsg (eC .non) (gN 3)
noncomputable def u_law_told_3 : Sx := sTryH 2 4 [1, 2, 3, 4, 5, 6] (sIf (tBl (eOp dEq (eVar 0) (eC (.int 0)))) (sAsg (eCall m_written_packet [eVar 1]) (gN 3)) (sAsg (eIf (tBl (eOp dEq (eVar 0) (eC (.int 1)))) (eCall m_read_packet [eVar 1]) (eCall m_look_packet [eVar 1])) (gN 3)))
noncomputable def u_law_told_4 : Sx := sRet (eIf (tBl (eUn dIsN (eVar 2))) (eVar 3) (eCall m_law_refusal [eVar 2]))
noncomputable def b_law_told : Sx := sSeq u_law_told_1 (sSeq u_law_told_2 (sSeq u_law_told_3 (u_law_told_4)))
noncomputable def m_law_told : Fn := fnOf 5 b_law_told
noncomputable def u_law_1 : Sx := sAsg (eLst nwM []) (gN 1)
noncomputable def u_law_2 : Sx := sAsg (eCall m_law_packet [eVar 0, eVar 1]) (gN 2)
noncomputable def u_law_3 : Sx := sAsg (eCall m_law_told [eC (.int 0), eVar 2]) (gN 3)
noncomputable def u_law_4 : Sx := sIf (tOr (tBl (eOp dNe (eVar 3) (eCall m_law_bytes [eVar 2]))) (tBl (eUn dNotN (eCall m_law_told [eC (.int 2), eVar 2])))) (sRet (eC (.bl false))) (sNext)
noncomputable def u_law_5 : Sx := sAsg (eUn (dList nwF) (eVar 3)) (gN 4)
noncomputable def u_law_6 : Sx := sIf (tOr (tBl (eOp dNe (eCall m_law_told [eC (.int 1), eVar 4]) (eVar 2))) (tBl (eOp dNe (eVar 4) (eVar 3)))) (sRet (eC (.bl false))) (sNext)
noncomputable def u_law_7 : Sx := sAsg (eCall m_law_bad [eVar 0, eVar 1]) (gN 5)
noncomputable def u_law_8 : Sx := sRet (eOp dEq (eLc nwF [6] (iSeq (eTup [eC (.int 0), eC (.int 2)])) (gN 6) (Pd.tYes) (eCall m_law_told [eVar 6, eVar 5])) (eOp (dRep nwF) (eLst nwF [eTup [eC (.str (Str.ofString "refused")), eC (.str (Str.ofString "packet"))]]) (eC (.int 2))))
noncomputable def b_law : Sx := sSeq u_law_1 (sSeq u_law_2 (sSeq u_law_3 (sSeq u_law_4 (sSeq u_law_5 (sSeq u_law_6 (sSeq u_law_7 (u_law_8)))))))
noncomputable def m_law : Fn := fnOf 7 b_law
theorem m_Bytes_init_non : ∀ ds s d s', m_Bytes_init ds s = .ok d s' → d = .non := noRt_fn (noRt_seq noRt_setF (noRt_setF))
end Tx
namespace Tx
open PySem L2 Pd
section
variable {P : Program} {w : World} {K : PySem.W.Frag} {mg : Str → Option Value} {base : Heap} {A : Ad}
theorem d_is_level (T : Txt w K mg A) : Df true P w K mg base J 1 1 A.f_is_level m_is_level := by
  obtain ⟨fd, F, hb⟩ := T.d_is_level
  exact df_of F sc_is_level hb fun cdv A outer s H E hr =>
    (ss_cons (ss_if (ts_cmp (c_gt) (es_b1 (b_len) rfl T.n_len (by decide +kernel) (es_var (pv 0))) (es_gint rfl T.c_MOST_SIGNS) (nomark _)) (ss_one (ss_ret (es_bl))) (ss_nil))
      (ss_one (ss_ret (es_b1 (b_all rfl) rfl T.n_all (by decide +kernel) (es_lc (own := [("sign", 1)]) isF rfl sc_is_level.nd (is_seq (es_var (pv 0))) (blkOk_by (own := [("sign", 1)]) (N := ["level", "sign"]) (sc := defScope s_is_level) (by decide +kernel)) (by decide) (fun _ _ _ _ _ => gs_name (pg_name (i := 1) sc_is_level.nd rfl (by first | exact Or.inl rfl | exact Or.inr rfl))) (fun _ _ _ _ _ => tts_nil) (fun _ _ _ _ _ => es_and (es_leLt (es_int) (es_b1 (b_ord) rfl T.n_ord (by decide +kernel) (es_var (pv 1))) (es_int)) (es_and (es_cmp (c_ne hr.units) (es_b1 (b_ord) rfl T.n_ord (by decide +kernel) (es_var (pv 1))) (es_int) (nomark _)) (es_one (es_cmp (c_notIn hr.u65) (es_var (pv 1)) (es_str))))))))))
theorem d_look_hearer (T : Txt w K mg A) : Df true P w K mg base J 1 1 A.f_look_hearer m_look_hearer := by
  obtain ⟨fd, F, hb⟩ := T.d_look_hearer
  exact df_of F sc_look_hearer hb fun cdv A outer s H E hr =>
    (ss_one (ss_if (ts_w (ws_or (ts_not (ts_leLe (es_int) (es_b1 (b_len) rfl T.n_len (by decide +kernel) (es_var (pv 0))) (es_gint rfl T.c_MOST_SIGNS))) (ws_or1 (ts_not (ts_tru (es_b1 (b_all rfl) rfl T.n_all (by decide +kernel) (es_lc (own := [("sign", 1)]) isF rfl sc_look_hearer.nd (is_seq (es_var (pv 0))) (blkOk_by (own := [("sign", 1)]) (N := ["hearer", "sign"]) (sc := defScope s_look_hearer) (by decide +kernel)) (by decide) (fun _ _ _ _ _ => gs_name (pg_name (i := 1) sc_look_hearer.nd rfl (by first | exact Or.inl rfl | exact Or.inr rfl))) (fun _ _ _ _ _ => tts_nil) (fun _ _ _ _ _ => es_cmp (c_in hr.u65) (es_var (pv 1)) (es_gstr rfl T.c_SMALL))))))))) (ss_one (ss_raise (z := true) (c := 2) rfl rfl ((tks_of rfl rfl rfl rfl)) PySem.F.excBase_ValueError T.x_BadName T.gc_BadName T.kc_BadName (raises_own T.b_BadName T.t_BadName) rfl)) (ss_nil)))
theorem d_look_grade (T : Txt w K mg A) : Df true P w K mg base J 1 1 A.f_look_grade m_look_grade := by
  obtain ⟨fd, F, hb⟩ := T.d_look_grade
  exact df_of F sc_look_grade hb fun cdv A outer s H E hr =>
    (ss_one (ss_if (ts_not (ts_leLe (es_int) (es_var (pv 0)) (es_int))) (ss_one (ss_raise (z := true) (c := 2) rfl rfl ((tks_of rfl rfl rfl rfl)) PySem.F.excBase_ValueError T.x_BadName T.gc_BadName T.kc_BadName (raises_own T.b_BadName T.t_BadName) rfl)) (ss_nil)))
theorem d_kind_number (T : Txt w K mg A) : Df true P w K mg base J 1 1 A.f_kind_number m_kind_number := by
  obtain ⟨fd, F, hb⟩ := T.d_kind_number
  exact df_of F sc_kind_number hb fun cdv A outer s H E hr =>
    (ss_cons (ss_asg (es_gcat rfl T.gv_KINDS T.kl_KINDS rfl T.gv_MORE_KINDS T.kl_MORE_KINDS) (gs_name (pg_name (i := 1) sc_kind_number.nd rfl (by first | exact Or.inl rfl | exact Or.inr rfl))))
      (ss_one (ss_ret (es_bm1 m_index (es_var (pv 1)) (es_var (pv 0))))))
theorem d_must (T : Txt w K mg A) : Df true P w K mg base J 1 1 A.f_must m_must := by
  obtain ⟨fd, F, hb⟩ := T.d_must
  exact df_of F sc_must hb fun cdv A outer s H E hr =>
    (ss_one (ss_if (ts_not (ts_tru (es_var (pv 0)))) (ss_one (ss_raise (z := true) (c := 3) rfl rfl ((tks_of rfl rfl rfl rfl)) PySem.F.excBase_ValueError T.x_BadPacket T.gc_BadPacket T.kc_BadPacket (raises_own T.b_BadPacket T.t_BadPacket) rfl)) (ss_nil)))
theorem d_is_body (T : Txt w K mg A) : Df true P w K mg base J 1 1 A.f_is_body m_is_body := by
  obtain ⟨fd, F, hb⟩ := T.d_is_body
  exact df_of F sc_is_body hb fun cdv A outer s H E hr =>
    (ss_one (ss_ret (es_and (es_cmp (c_le) (es_b1 (b_len) rfl T.n_len (by decide +kernel) (es_var (pv 0))) (es_gint rfl T.c_MOST_BODY) (nomark _)) (es_one (es_b1 (b_all rfl) rfl T.n_all (by decide +kernel) (es_lc (own := [("sign", 1)]) isF rfl sc_is_body.nd (is_seq (es_var (pv 0))) (blkOk_by (own := [("sign", 1)]) (N := ["body", "sign"]) (sc := defScope s_is_body) (by decide +kernel)) (by decide) (fun _ _ _ _ _ => gs_name (pg_name (i := 1) sc_is_body.nd rfl (by first | exact Or.inl rfl | exact Or.inr rfl))) (fun _ _ _ _ _ => tts_nil) (fun _ _ _ _ _ => es_and (es_leLt (es_int) (es_b1 (b_ord) rfl T.n_ord (by decide +kernel) (es_var (pv 1))) (es_int)) (es_one (es_cmp (c_ne hr.units) (es_b1 (b_ord) rfl T.n_ord (by decide +kernel) (es_var (pv 1))) (es_int) (nomark _))))))))))
theorem d_is_id (T : Txt w K mg A) : Df true P w K mg base J 1 1 A.f_is_id m_is_id := by
  obtain ⟨fd, F, hb⟩ := T.d_is_id
  exact df_of F sc_is_id hb fun cdv A outer s H E hr =>
    (ss_one (ss_ret (es_leLe (es_int) (es_var (pv 0)) (es_gint rfl T.c_MOST_ID))))
theorem d_id_bytes (T : Txt w K mg A) : Df true P w K mg base J 1 1 A.f_id_bytes m_id_bytes := by
  obtain ⟨fd, F, hb⟩ := T.d_id_bytes
  exact df_of F sc_id_bytes hb fun cdv A outer s H E hr =>
    (ss_one (ss_ret (es_lst isM (as_cons (es_fdv (es_var (pv 0)) (es_int)) (as_cons (es_sub (es_var (pv 0)) (es_mul (es_fdv (es_var (pv 0)) (es_int)) (es_int))) (as_nil))))))
theorem d_length_bytes (T : Txt w K mg A) : Df true P w K mg base J 1 1 A.f_length_bytes m_length_bytes := by
  obtain ⟨fd, F, hb⟩ := T.d_length_bytes
  exact df_of F sc_length_bytes hb fun cdv A outer s H E hr =>
    (ss_cons (ss_if (ts_cmp (c_lt) (es_var (pv 0)) (es_int) (nomark _)) (ss_one (ss_ret (es_lst isF (as_cons (es_var (pv 0)) (as_nil))))) (ss_nil))
      (ss_one (ss_ret (es_lst isF (as_cons (es_sub (es_add isF (es_int) (es_var (pv 0))) (es_mul (es_fdv (es_var (pv 0)) (es_int)) (es_int))) (as_cons (es_fdv (es_var (pv 0)) (es_int)) (as_nil)))))))
theorem d_Bytes_init (T : Txt w K mg A) : Df true P w K mg base J 1 2 A.f_Bytes_init m_Bytes_init := by
  obtain ⟨fd, F, hb⟩ := T.d_Bytes_init
  exact df_of F sc_Bytes_init hb fun cdv A outer s H E hr =>
    (ss_cons (ss_setF T.a_Bytes_row (es_var (pv 0)) (es_var (pv 1)))
      (ss_one (ss_setF T.a_Bytes_spot (es_var (pv 0)) (es_int))))
theorem d_Bytes_is_end (T : Txt w K mg A) : Df true P w K mg base J 1 1 A.f_Bytes_is_end m_Bytes_is_end := by
  obtain ⟨fd, F, hb⟩ := T.d_Bytes_is_end
  exact df_of F sc_Bytes_is_end hb fun cdv A outer s H E hr =>
    (ss_one (ss_ret (es_cmp (c_eq hr.units) (es_fld T.a_Bytes_spot (es_var (pv 0))) (es_b1 (b_len) rfl T.n_len (by decide +kernel) (es_fld T.a_Bytes_row (es_var (pv 0)))) (nomark _))))
theorem d_head_of (T : Txt w K mg A) : Df true P w K mg base J 1 1 A.f_head_of m_head_of := by
  obtain ⟨fd, F, hb⟩ := T.d_head_of
  exact df_of F sc_head_of hb fun cdv A outer s H E hr =>
    (ss_cons (ss_if (ts_w (ws_and (ts_tru (es_var (pv 0))) (ws_and1 (ts_not (ts_leLt (es_int) (es_ix (es_var (pv 0)) (es_int)) (es_mul (es_int) (es_b1 (b_len) rfl T.n_len (by decide +kernel) (es_gcat rfl T.gv_KINDS T.kl_KINDS rfl T.gv_MORE_KINDS T.kl_MORE_KINDS)))))))) (ss_one (ss_raise (z := true) (c := 4) rfl rfl ((tks_of rfl rfl rfl rfl)) PySem.F.excBase_ValueError T.x_BadBytes T.gc_BadBytes T.kc_BadBytes (raises_own T.b_BadBytes T.t_BadBytes) rfl)) (ss_nil))
      (ss_cons (ss_if (ts_w (ws_or (ts_cmp (c_lt) (es_b1 (b_len) rfl T.n_len (by decide +kernel) (es_var (pv 0))) (es_int) (nomark _)) (ws_or1 (ts_w (ws_and (ts_cmp (c_ge) (es_ix (es_var (pv 0)) (es_int)) (es_int) (nomark _)) (ws_and1 (ts_cmp (c_lt) (es_b1 (b_len) rfl T.n_len (by decide +kernel) (es_var (pv 0))) (es_int) (nomark _)))))))) (ss_one (ss_ret (es_non))) (ss_nil))
      (ss_cons (ss_asg (es_if (ts_cmp (c_lt) (es_ix (es_var (pv 0)) (es_int)) (es_int) (nomark _)) (es_ix (es_var (pv 0)) (es_int)) (es_add isF (es_sub (es_ix (es_var (pv 0)) (es_int)) (es_int)) (es_mul (es_int) (es_ix (es_var (pv 0)) (es_int))))) (gs_name (pg_name (i := 1) sc_head_of.nd rfl (by first | exact Or.inl rfl | exact Or.inr rfl))))
      (ss_cons (ss_if (ts_w (ws_or (ts_w (ws_and (ts_cmp (c_ge) (es_ix (es_var (pv 0)) (es_int)) (es_int) (nomark _)) (ws_and1 (ts_not (ts_leLt (es_int) (es_ix (es_var (pv 0)) (es_int)) (es_int)))))) (ws_or1 (ts_cmp (c_gt) (es_var (pv 1)) (es_gint rfl T.c_MOST_REST) (nomark _))))) (ss_one (ss_raise (z := true) (c := 4) rfl rfl ((tks_of rfl rfl rfl rfl)) PySem.F.excBase_ValueError T.x_BadBytes T.gc_BadBytes T.kc_BadBytes (raises_own T.b_BadBytes T.t_BadBytes) rfl)) (ss_nil))
      (ss_one (ss_ret (es_tup (as_cons (es_ix (es_var (pv 0)) (es_int)) (as_cons (es_var (pv 1)) (as_cons (es_if (ts_cmp (c_lt) (es_ix (es_var (pv 0)) (es_int)) (es_int) (nomark _)) (es_int) (es_int)) (as_nil)))))))))))
theorem d_law_cell (T : Txt w K mg A) : Df true P w K mg base J 1 2 A.f_law_cell m_law_cell := by
  obtain ⟨fd, F, hb⟩ := T.d_law_cell
  exact df_of F sc_law_cell hb fun cdv A outer s H E hr =>
    (ss_cons (ss_if (ts_tru (es_var (pv 0))) (ss_one (ss_ret (es_ix (es_var (pv 0)) (es_mod (es_var (pv 1)) (es_b1 (b_len) rfl T.n_len (by decide +kernel) (es_var (pv 0))))))) (ss_nil))
      (ss_one (ss_ret (es_int))))
theorem d_law_refusal (T : Txt w K mg A) : Df true P w K mg base J 1 1 A.f_law_refusal m_law_refusal := by
  obtain ⟨fd, F, hb⟩ := T.d_law_refusal
  exact df_of F sc_law_refusal hb fun cdv A outer s H E hr =>
    (ss_cons (ss_if (ts_isN (es_var (pv 0))) (ss_one (ss_ret (es_tup (as_cons (es_str) (as_nil))))) (ss_nil))
      (ss_cons (ss_asg (es_lst isF (as_cons (es_isx T.ix_BadName rfl T.n_isinstance rfl T.gc_BadName (es_var (pv 0))) (as_cons (es_isx T.ix_BadPacket rfl T.n_isinstance rfl T.gc_BadPacket (es_var (pv 0))) (as_cons (es_isx T.ix_BadBytes rfl T.n_isinstance rfl T.gc_BadBytes (es_var (pv 0))) (as_nil))))) (gs_name (pg_name (i := 1) sc_law_refusal.nd rfl (by first | exact Or.inl rfl | exact Or.inr rfl))))
      (ss_cons (ss_asg (es_add isF (es_var (pv 1)) (es_lst isF (as_cons (es_isx T.ix_BadLine rfl T.n_isinstance rfl T.gc_BadLine (es_var (pv 0))) (as_cons (es_isx T.ix_BadText rfl T.n_isinstance rfl T.gc_BadText (es_var (pv 0))) (as_nil))))) (gs_name (pg_name (i := 1) sc_law_refusal.nd rfl (by first | exact Or.inl rfl | exact Or.inr rfl))))
      (ss_cons (ss_if (ts_w (ws_or (ts_cmp (c_ne hr.units) (es_bm1 m_count (es_var (pv 1)) (es_bl)) (es_int) (nomark _)) (ws_or1 (ts_not (ts_tru (es_isxT T.ix_ValueError rfl T.n_isinstance rfl T.n_ValueError (by decide +kernel) (es_var (pv 0)))))))) (ss_one (ss_ret (es_tup (as_cons (es_str) (as_nil))))) (ss_nil))
      (ss_one (ss_ret (es_tup (as_cons (es_str) (as_cons (es_ix (es_lst isF (as_cons (es_str) (as_cons (es_str) (as_cons (es_str) (as_cons (es_str) (as_cons (es_str) (as_nil))))))) (es_bm1 m_index (es_var (pv 1)) (es_bl))) (as_nil))))))))))
theorem d_law_codes (T : Txt w K mg A) : Df true P w K mg base J 1 1 A.f_law_codes m_law_codes := by
  obtain ⟨fd, F, hb⟩ := T.d_law_codes
  exact df_of F sc_law_codes hb fun cdv A outer s H E hr =>
    (ss_one (ss_ret (es_lc (own := [("sign", 1)]) isF rfl sc_law_codes.nd (is_seq (es_var (pv 0))) (blkOk_by (own := [("sign", 1)]) (N := ["text", "sign"]) (sc := defScope s_law_codes) (by decide +kernel)) (by decide) (fun _ _ _ _ _ => gs_name (pg_name (i := 1) sc_law_codes.nd rfl (by first | exact Or.inl rfl | exact Or.inr rfl))) (fun _ _ _ _ _ => tts_nil) (fun _ _ _ _ _ => es_b1 (b_ord) rfl T.n_ord (by decide +kernel) (es_var (pv 1))))))
theorem d_look_name (T : Txt w K mg A) : Df true P w K mg base J 2 1 A.f_look_name m_look_name := by
  obtain ⟨fd, F, hb⟩ := T.d_look_name
  exact df_of F sc_look_name hb fun cdv A outer s H E hr =>
    (ss_cons (ss_asg (es_bm1 (m_split isF) (es_var (pv 0)) (es_str)) (gs_name (pg_name (i := 1) sc_look_name.nd rfl (by first | exact Or.inl rfl | exact Or.inr rfl))))
      (ss_one (ss_if (ts_w (ws_or (ts_cmp (c_eq hr.units) (es_var (pv 0)) (es_str) (nomark _)) (ws_or (ts_cmp (c_gt) (es_b1 (b_len) rfl T.n_len (by decide +kernel) (es_var (pv 1))) (es_gint rfl T.c_MOST_LEVELS) (nomark _)) (ws_or1 (ts_not (ts_tru (es_b1 (b_all rfl) rfl T.n_all (by decide +kernel) (es_lc (own := [("level", 2)]) isF rfl sc_look_name.nd (is_seq (es_var (pv 1))) (blkOk_by (own := [("level", 2)]) (N := ["name", "levels", "level"]) (sc := defScope s_look_name) (by decide +kernel)) (by decide) (fun _ _ _ _ _ => gs_name (pg_name (i := 2) sc_look_name.nd rfl (by first | exact Or.inl rfl | exact Or.inr rfl))) (fun _ _ _ _ _ => tts_nil) (fun _ _ _ _ _ => es_call tks0 (d_is_level T) (hr.mono (by omega)) rfl T.g_is_level T.k_is_level (as_cons (es_var (pv 2)) (as_nil))))))))))) (ss_one (ss_raise (z := true) (c := 2) rfl rfl ((tks_of rfl rfl rfl rfl)) PySem.F.excBase_ValueError T.x_BadName T.gc_BadName T.kc_BadName (raises_own T.b_BadName T.t_BadName) rfl)) (ss_nil))))
theorem d_look_wish (T : Txt w K mg A) : Df true P w K mg base J 2 1 A.f_look_wish m_look_wish := by
  obtain ⟨fd, F, hb⟩ := T.d_look_wish
  exact df_of F sc_look_wish hb fun cdv A outer s H E hr =>
    (ss_cons (ss_asg (es_bm1 (m_split isF) (es_var (pv 0)) (es_str)) (gs_name (pg_name (i := 1) sc_look_wish.nd rfl (by first | exact Or.inl rfl | exact Or.inr rfl))))
      (ss_cons (ss_asg (es_if (ts_cmp (c_eq hr.units) (es_ix (es_var (pv 1)) (es_neg (es_int))) (es_str) (nomark _)) (es_sl isF (es_var (pv 1)) (os_none) (os_some (es_neg (es_int)))) (es_var (pv 1))) (gs_name (pg_name (i := 2) sc_look_wish.nd rfl (by first | exact Or.inl rfl | exact Or.inr rfl))))
      (ss_one (ss_if (ts_w (ws_or (ts_cmp (c_eq hr.units) (es_var (pv 0)) (es_str) (nomark _)) (ws_or (ts_cmp (c_gt) (es_b1 (b_len) rfl T.n_len (by decide +kernel) (es_var (pv 1))) (es_gint rfl T.c_MOST_LEVELS) (nomark _)) (ws_or1 (ts_not (ts_tru (es_b1 (b_all rfl) rfl T.n_all (by decide +kernel) (es_lc (own := [("level", 3)]) isF rfl sc_look_wish.nd (is_seq (es_var (pv 2))) (blkOk_by (own := [("level", 3)]) (N := ["wish", "levels", "plain", "level"]) (sc := defScope s_look_wish) (by decide +kernel)) (by decide) (fun _ _ _ _ _ => gs_name (pg_name (i := 3) sc_look_wish.nd rfl (by first | exact Or.inl rfl | exact Or.inr rfl))) (fun _ _ _ _ _ => tts_nil) (fun _ _ _ _ _ => es_or (es_cmp (c_eq hr.units) (es_var (pv 3)) (es_str) (nomark _)) (es_one (es_call tks0 (d_is_level T) (hr.mono (by omega)) rfl T.g_is_level T.k_is_level (as_cons (es_var (pv 3)) (as_nil))))))))))))) (ss_one (ss_raise (z := true) (c := 2) rfl rfl ((tks_of rfl rfl rfl rfl)) PySem.F.excBase_ValueError T.x_BadName T.gc_BadName T.kc_BadName (raises_own T.b_BadName T.t_BadName) rfl)) (ss_nil)))))
theorem d_text_bytes (T : Txt w K mg A) : Df true P w K mg base J 2 1 A.f_text_bytes m_text_bytes := by
  obtain ⟨fd, F, hb⟩ := T.d_text_bytes
  exact df_of F sc_text_bytes hb fun cdv A outer s H E hr =>
    (ss_one (ss_ret (es_add isF (es_call (tks_of rfl rfl rfl rfl) (d_id_bytes T) (hr.mono (by omega)) rfl T.g_id_bytes T.k_id_bytes (as_cons (es_b1 (b_len) rfl T.n_len (by decide +kernel) (es_var (pv 0))) (as_nil))) (es_lc (own := [("sign", 1)]) isF rfl sc_text_bytes.nd (is_seq (es_var (pv 0))) (blkOk_by (own := [("sign", 1)]) (N := ["text", "sign"]) (sc := defScope s_text_bytes) (by decide +kernel)) (by decide) (fun _ _ _ _ _ => gs_name (pg_name (i := 1) sc_text_bytes.nd rfl (by first | exact Or.inl rfl | exact Or.inr rfl))) (fun _ _ _ _ _ => tts_nil) (fun _ _ _ _ _ => es_b1 (b_ord) rfl T.n_ord (by decide +kernel) (es_var (pv 1)))))))
theorem d_Bytes_byte (T : Txt w K mg A) : Df true P w K mg base J 2 1 A.f_Bytes_byte m_Bytes_byte := by
  obtain ⟨fd, F, hb⟩ := T.d_Bytes_byte
  exact df_of F sc_Bytes_byte hb fun cdv A outer s H E hr =>
    (ss_cons (ss_if (ts_tru (es_meth0 (tks_of rfl rfl rfl rfl) T.me_Bytes_is_end (d_Bytes_is_end T) (hr.mono (by omega)) (es_var (pv 0)))) (ss_one (ss_raise (z := true) (c := 4) rfl rfl ((tks_of rfl rfl rfl rfl)) PySem.F.excBase_ValueError T.x_BadBytes T.gc_BadBytes T.kc_BadBytes (raises_own T.b_BadBytes T.t_BadBytes) rfl)) (ss_nil))
      (ss_cons (ss_setF T.a_Bytes_spot (es_var (pv 0)) (es_add isF (es_fld T.a_Bytes_spot (es_var (pv 0))) (es_int)))
      (ss_one (ss_ret (es_ix (es_fld T.a_Bytes_row (es_var (pv 0))) (es_sub (es_fld T.a_Bytes_spot (es_var (pv 0))) (es_int)))))))
theorem d_law_mix (T : Txt w K mg A) : Df true P w K mg base J 2 2 A.f_law_mix m_law_mix := by
  obtain ⟨fd, F, hb⟩ := T.d_law_mix
  exact df_of F sc_law_mix hb fun cdv A outer s H E hr =>
    (ss_cons (ss_asg (es_mod (es_add isF (es_call (tks_of rfl rfl rfl rfl) (d_law_cell T) (hr.mono (by omega)) rfl T.g_law_cell T.k_law_cell (as_cons (es_var (pv 0)) (as_cons (es_var (pv 1)) (as_nil)))) (es_mul (es_int) (es_add isF (es_var (pv 1)) (es_int)))) (es_int)) (gs_name (pg_name (i := 2) sc_law_mix.nd rfl (by first | exact Or.inl rfl | exact Or.inr rfl))))
      (ss_cons (ss_asg (es_mod (es_pow (es_var (pv 2)) (es_int)) (es_int)) (gs_name (pg_name (i := 2) sc_law_mix.nd rfl (by first | exact Or.inl rfl | exact Or.inr rfl))))
      (ss_one (ss_ret (es_mod (es_add isF (es_mul (es_fdv (es_var (pv 2)) (es_int)) (es_int)) (es_var (pv 2))) (es_int))))))
theorem d_law_counted (T : Txt w K mg A) : Df true P w K mg base J 2 1 A.f_law_counted m_law_counted := by
  obtain ⟨fd, F, hb⟩ := T.d_law_counted
  exact df_of F sc_law_counted hb fun cdv A outer s H E hr =>
    (ss_one (ss_ret (es_add isF (es_lst isF (as_cons (es_fdv (es_b1 (b_len) rfl T.n_len (by decide +kernel) (es_var (pv 0))) (es_int)) (as_cons (es_mod (es_b1 (b_len) rfl T.n_len (by decide +kernel) (es_var (pv 0))) (es_int)) (as_nil)))) (es_call (tks_of rfl rfl rfl rfl) (d_law_codes T) (hr.mono (by omega)) rfl T.g_law_codes T.k_law_codes (as_cons (es_var (pv 0)) (as_nil))))))
theorem d_look_tiding (T : Txt w K mg A) : Df true P w K mg base J 3 4 A.f_look_tiding m_look_tiding := by
  obtain ⟨fd, F, hb⟩ := T.d_look_tiding
  exact df_of F sc_look_tiding hb fun cdv A outer s H E hr =>
    (ss_cons (ss_expr (es_call (tks_of rfl rfl rfl rfl) (d_look_name T) (hr.mono (by omega)) rfl T.g_look_name T.k_look_name (as_cons (es_var (pv 0)) (as_nil))))
      (ss_cons (ss_expr (es_call (tks_of rfl rfl rfl rfl) (d_look_grade T) (hr.mono (by omega)) rfl T.g_look_grade T.k_look_grade (as_cons (es_var (pv 2)) (as_nil))))
      (ss_one (ss_expr (es_call (tks_of rfl rfl rfl rfl) (d_must T) (hr.mono (by omega)) rfl T.g_must T.k_must (as_cons (es_and (es_call (tks_of rfl rfl rfl rfl) (d_is_body T) (hr.mono (by omega)) rfl T.g_is_body T.k_is_body (as_cons (es_var (pv 1)) (as_nil))) (es_one (es_cmp (c_in hr.u65) (es_var (pv 3)) (es_tup (as_cons (es_bl) (as_cons (es_bl) (as_nil))))))) (as_nil)))))))
theorem d_look_some (T : Txt w K mg A) : Df true P w K mg base J 3 1 A.f_look_some m_look_some := by
  obtain ⟨fd, F, hb⟩ := T.d_look_some
  exact df_of F sc_look_some hb fun cdv A outer s H E hr =>
    (ss_cons (ss_expr (es_call (tks_of rfl rfl rfl rfl) (d_must T) (hr.mono (by omega)) rfl T.g_must T.k_must (as_cons (es_and (es_call (tks_of rfl rfl rfl rfl) (d_is_id T) (hr.mono (by omega)) rfl T.g_is_id T.k_is_id (as_cons (es_ix (es_var (pv 0)) (es_int)) (as_nil))) (es_one (es_leLe (es_int) (es_b1 (b_len) rfl T.n_len (by decide +kernel) (es_ix (es_var (pv 0)) (es_int))) (es_gint rfl T.c_MOST_WISHES)))) (as_nil))))
      (ss_one (ss_for (passes_of rfl) rfl (is_seq (es_ix (es_var (pv 0)) (es_int))) (gs_name (pg_name (i := 1) sc_look_some.nd rfl (by first | exact Or.inl rfl | exact Or.inr rfl))) (ss_one (ss_if (ts_cmp (c_eq hr.units) (es_ix (es_var (pv 0)) (es_int)) (es_str) (nomark _)) (ss_one (ss_expr (es_call (tks_of rfl rfl rfl rfl) (d_must T) (hr.mono (by omega)) rfl T.g_must T.k_must (as_cons (es_cmp (c_in hr.u65) (es_var (pv 1)) (es_tup (as_cons (es_int) (as_cons (es_int) (as_cons (es_int) (as_cons (es_gint rfl T.c_REFUSED) (as_nil))))))) (as_nil))))) (ss_one (ss_if (ts_cmp (c_eq hr.units) (es_ix (es_var (pv 0)) (es_int)) (es_str) (nomark _)) (ss_one (ss_expr (es_call (tks_of rfl rfl rfl rfl) (d_look_wish T) (hr.mono (by omega)) rfl T.g_look_wish T.k_look_wish (as_cons (es_var (pv 1)) (as_nil))))) (ss_cons (ss_expr (es_call (tks_of rfl rfl rfl rfl) (d_must T) (hr.mono (by omega)) rfl T.g_must T.k_must (as_cons (es_cmp (c_eq hr.units) (es_b1 (b_len) rfl T.n_len (by decide +kernel) (es_var (pv 1))) (es_int) (nomark _)) (as_nil))))
      (ss_cons (ss_expr (es_call (tks_of rfl rfl rfl rfl) (d_look_wish T) (hr.mono (by omega)) rfl T.g_look_wish T.k_look_wish (as_cons (es_ix (es_var (pv 1)) (es_int)) (as_nil))))
      (ss_one (ss_expr (es_call (tks_of rfl rfl rfl rfl) (d_look_grade T) (hr.mono (by omega)) rfl T.g_look_grade T.k_look_grade (as_cons (es_ix (es_var (pv 1)) (es_int)) (as_nil))))))))))))))
theorem d_will_bytes (T : Txt w K mg A) : Df true P w K mg base J 3 1 A.f_will_bytes m_will_bytes := by
  obtain ⟨fd, F, hb⟩ := T.d_will_bytes
  exact df_of F sc_will_bytes hb fun cdv A outer s H E hr =>
    (ss_cons (ss_asg (es_ix (es_var (pv 0)) (es_int)) (gs_name (pg_name (i := 1) sc_will_bytes.nd rfl (by first | exact Or.inl rfl | exact Or.inr rfl))))
      (ss_cons (ss_if (ts_isN (es_var (pv 1))) (ss_one (ss_ret (es_lst isF (as_cons (es_mul (es_int) (es_y1 (b_int) rfl T.n_int (by decide +kernel) (es_ix (es_var (pv 0)) (es_int)))) (as_nil))))) (ss_nil))
      (ss_cons (ss_asg (es_add isF (es_add isF (es_add isF (es_mul (es_int) (es_y1 (b_int) rfl T.n_int (by decide +kernel) (es_ix (es_var (pv 0)) (es_int)))) (es_int)) (es_mul (es_int) (es_ix (es_var (pv 1)) (es_int)))) (es_mul (es_int) (es_y1 (b_int) rfl T.n_int (by decide +kernel) (es_ix (es_var (pv 1)) (es_int))))) (gs_name (pg_name (i := 2) sc_will_bytes.nd rfl (by first | exact Or.inl rfl | exact Or.inr rfl))))
      (ss_one (ss_ret (es_add isF (es_add isF (es_lst isF (as_cons (es_var (pv 2)) (as_nil))) (es_call (tks_of rfl rfl rfl rfl) (d_text_bytes T) (hr.mono (by omega)) rfl T.g_text_bytes T.k_text_bytes (as_cons (es_ix (es_var (pv 1)) (es_int)) (as_nil)))) (es_call (tks_of rfl rfl rfl rfl) (d_text_bytes T) (hr.mono (by omega)) rfl T.g_text_bytes T.k_text_bytes (as_cons (es_ix (es_var (pv 1)) (es_int)) (as_nil)))))))))
theorem d_Bytes_number (T : Txt w K mg A) : Df true P w K mg base J 3 1 A.f_Bytes_number m_Bytes_number := by
  obtain ⟨fd, F, hb⟩ := T.d_Bytes_number
  exact df_of F sc_Bytes_number hb fun cdv A outer s H E hr =>
    (ss_cons (ss_asg (es_meth0 (tks_of rfl rfl rfl rfl) T.me_Bytes_byte (d_Bytes_byte T) (hr.mono (by omega)) (es_var (pv 0))) (gs_name (pg_name (i := 1) sc_Bytes_number.nd rfl (by first | exact Or.inl rfl | exact Or.inr rfl))))
      (ss_one (ss_ret (es_add isF (es_mul (es_int) (es_var (pv 1))) (es_meth0 (tks_of rfl rfl rfl rfl) T.me_Bytes_byte (d_Bytes_byte T) (hr.mono (by omega)) (es_var (pv 0)))))))
theorem d_Bytes_text (T : Txt w K mg A) : Df true P w K mg base J 3 2 A.f_Bytes_text m_Bytes_text := by
  obtain ⟨fd, F, hb⟩ := T.d_Bytes_text
  exact df_of F sc_Bytes_text hb fun cdv A outer s H E hr =>
    (ss_cons (ss_asg (es_str) (gs_name (pg_name (i := 2) sc_Bytes_text.nd rfl (by first | exact Or.inl rfl | exact Or.inr rfl))))
      (ss_cons (ss_for (passes_of rfl) rfl (is_range rfl T.n_range (es_var (pv 1))) (gs_name (pg_name (i := 3) sc_Bytes_text.nd rfl (by first | exact Or.inl rfl | exact Or.inr rfl))) (ss_cons (ss_asg (es_meth0 (tks_of rfl rfl rfl rfl) T.me_Bytes_byte (d_Bytes_byte T) (hr.mono (by omega)) (es_var (pv 0))) (gs_name (pg_name (i := 4) sc_Bytes_text.nd rfl (by first | exact Or.inl rfl | exact Or.inr rfl))))
      (ss_cons (ss_if (ts_not (ts_leLt (es_int) (es_var (pv 4)) (es_int))) (ss_one (ss_raise (z := true) (c := 4) rfl rfl ((tks_of rfl rfl rfl rfl)) PySem.F.excBase_ValueError T.x_BadBytes T.gc_BadBytes T.kc_BadBytes (raises_own T.b_BadBytes T.t_BadBytes) rfl)) (ss_nil))
      (ss_one (ss_asg (es_add isF (es_var (pv 2)) (es_ix (es_gstr rfl T.c_SIGNS) (es_sub (es_var (pv 4)) (es_int)))) (gs_name (pg_name (i := 2) sc_Bytes_text.nd rfl (by first | exact Or.inl rfl | exact Or.inr rfl))))))))
      (ss_one (ss_ret (es_var (pv 2))))))
theorem d_law_draw (T : Txt w K mg A) : Df true P w K mg base J 3 3 A.f_law_draw m_law_draw := by
  obtain ⟨fd, F, hb⟩ := T.d_law_draw
  exact df_of F sc_law_draw hb fun cdv A outer s H E hr =>
    (ss_cons (ss_expr (es_bm1 m_append (es_var (pv 1)) (es_int)))
      (ss_one (ss_ret (es_mod (es_fdv (es_call (tks_of rfl rfl rfl rfl) (d_law_mix T) (hr.mono (by omega)) rfl T.g_law_mix T.k_law_mix (as_cons (es_var (pv 0)) (as_cons (es_b1 (b_len) rfl T.n_len (by decide +kernel) (es_var (pv 1))) (as_nil)))) (es_int)) (es_var (pv 2))))))
theorem d_law_rest (T : Txt w K mg A) : Df true P w K mg base J 3 1 A.f_law_rest m_law_rest := by
  obtain ⟨fd, F, hb⟩ := T.d_law_rest
  exact df_of F sc_law_rest hb fun cdv A outer s H E hr =>
    (ss_cons (ss_asg (es_ix (es_var (pv 0)) (es_int)) (gs_name (pg_name (i := 1) sc_law_rest.nd rfl (by first | exact Or.inl rfl | exact Or.inr rfl))))
      (ss_cons (ss_if (ts_cmp (c_eq hr.units) (es_var (pv 1)) (es_str) (nomark _)) (ss_cons (ss_asg (es_ix (es_var (pv 0)) (es_int)) (gs_name (pg_name (i := 2) sc_law_rest.nd rfl (by first | exact Or.inl rfl | exact Or.inr rfl))))
      (ss_cons (ss_asg (es_call (tks_of rfl rfl rfl rfl) (d_law_counted T) (hr.mono (by omega)) rfl T.g_law_counted T.k_law_counted (as_cons (es_ix (es_var (pv 0)) (es_int)) (as_nil))) (gs_name (pg_name (i := 3) sc_law_rest.nd rfl (by first | exact Or.inl rfl | exact Or.inr rfl))))
      (ss_cons (ss_if (ts_isN (es_var (pv 2))) (ss_one (ss_ret (es_add isF (es_var (pv 3)) (es_lst isF (as_cons (es_ix (es_lst isF (as_cons (es_int) (as_cons (es_int) (as_nil)))) (es_y1 (b_int) rfl T.n_int (by decide +kernel) (es_ix (es_var (pv 0)) (es_int)))) (as_nil)))))) (ss_nil))
      (ss_cons (ss_asg (es_add isF (es_add isF (es_add isF (es_ix (es_lst isF (as_cons (es_int) (as_cons (es_int) (as_nil)))) (es_y1 (b_int) rfl T.n_int (by decide +kernel) (es_ix (es_var (pv 0)) (es_int)))) (es_int)) (es_mul (es_int) (es_ix (es_var (pv 2)) (es_int)))) (es_ix (es_lst isF (as_cons (es_int) (as_cons (es_int) (as_nil)))) (es_y1 (b_int) rfl T.n_int (by decide +kernel) (es_ix (es_var (pv 2)) (es_int))))) (gs_name (pg_name (i := 4) sc_law_rest.nd rfl (by first | exact Or.inl rfl | exact Or.inr rfl))))
      (ss_one (ss_ret (es_add isF (es_add isF (es_add isF (es_var (pv 3)) (es_lst isF (as_cons (es_var (pv 4)) (as_nil)))) (es_call (tks_of rfl rfl rfl rfl) (d_law_counted T) (hr.mono (by omega)) rfl T.g_law_counted T.k_law_counted (as_cons (es_ix (es_var (pv 2)) (es_int)) (as_nil)))) (es_call (tks_of rfl rfl rfl rfl) (d_law_counted T) (hr.mono (by omega)) rfl T.g_law_counted T.k_law_counted (as_cons (es_ix (es_var (pv 2)) (es_int)) (as_nil)))))))))) (ss_nil))
      (ss_cons (ss_if (ts_cmp (c_eq hr.units) (es_var (pv 1)) (es_str) (nomark _)) (ss_one (ss_ret (es_lst isF (as_cons (es_y1 (b_int) rfl T.n_int (by decide +kernel) (es_ix (es_var (pv 0)) (es_int))) (as_nil))))) (ss_nil))
      (ss_cons (ss_if (ts_cmp (c_eq hr.units) (es_var (pv 1)) (es_str) (nomark _)) (ss_cons (ss_asg (es_if (ts_cmp (c_gt) (es_ix (es_var (pv 0)) (es_int)) (es_int) (nomark _)) (es_lst isF (as_cons (es_fdv (es_ix (es_var (pv 0)) (es_int)) (es_int)) (as_cons (es_mod (es_ix (es_var (pv 0)) (es_int)) (es_int)) (as_nil)))) (es_lst isF (as_nil))) (gs_name (pg_name (i := 5) sc_law_rest.nd rfl (by first | exact Or.inl rfl | exact Or.inr rfl))))
      (ss_one (ss_ret (es_add isF (es_add isF (es_call (tks_of rfl rfl rfl rfl) (d_law_counted T) (hr.mono (by omega)) rfl T.g_law_counted T.k_law_counted (as_cons (es_ix (es_var (pv 0)) (es_int)) (as_nil))) (es_var (pv 5))) (es_call (tks_of rfl rfl rfl rfl) (d_law_codes T) (hr.mono (by omega)) rfl T.g_law_codes T.k_law_codes (as_cons (es_ix (es_var (pv 0)) (es_int)) (as_nil))))))) (ss_nil))
      (ss_cons (ss_asg (es_if (ts_cmp (c_gt) (es_b1 (b_len) rfl T.n_len (by decide +kernel) (es_var (pv 0))) (es_int) (nomark _)) (es_lst isF (as_cons (es_fdv (es_ix (es_var (pv 0)) (es_int)) (es_int)) (as_cons (es_mod (es_ix (es_var (pv 0)) (es_int)) (es_int)) (as_nil)))) (es_lst isF (as_nil))) (gs_name (pg_name (i := 6) sc_law_rest.nd rfl (by first | exact Or.inl rfl | exact Or.inr rfl))))
      (ss_cons (ss_for (passes_of rfl) rfl (is_seq (es_if (ts_cmp (c_gt) (es_b1 (b_len) rfl T.n_len (by decide +kernel) (es_var (pv 0))) (es_int) (nomark _)) (es_ix (es_var (pv 0)) (es_int)) (es_tup (as_nil)))) (gs_name (pg_name (i := 7) sc_law_rest.nd rfl (by first | exact Or.inl rfl | exact Or.inr rfl))) (ss_one (ss_if (ts_cmp (c_eq hr.units) (es_var (pv 1)) (es_str) (nomark _)) (ss_one (ss_asg (es_add isF (es_var (pv 6)) (es_lst isF (as_cons (es_var (pv 7)) (as_nil)))) (gs_name (pg_name (i := 6) sc_law_rest.nd rfl (by first | exact Or.inl rfl | exact Or.inr rfl))))) (ss_one (ss_asg (es_add isF (es_var (pv 6)) (es_if (ts_cmp (c_eq hr.units) (es_var (pv 1)) (es_str) (nomark _)) (es_call (tks_of rfl rfl rfl rfl) (d_law_counted T) (hr.mono (by omega)) rfl T.g_law_counted T.k_law_counted (as_cons (es_var (pv 7)) (as_nil))) (es_add isF (es_call (tks_of rfl rfl rfl rfl) (d_law_counted T) (hr.mono (by omega)) rfl T.g_law_counted T.k_law_counted (as_cons (es_ix (es_var (pv 7)) (es_int)) (as_nil))) (es_lst isF (as_cons (es_ix (es_var (pv 7)) (es_int)) (as_nil)))))) (gs_name (pg_name (i := 6) sc_law_rest.nd rfl (by first | exact Or.inl rfl | exact Or.inr rfl))))))))
      (ss_one (ss_ret (es_var (pv 6))))))))))
theorem d_look_say (T : Txt w K mg A) : Df true P w K mg base J 4 1 A.f_look_say m_look_say := by
  obtain ⟨fd, F, hb⟩ := T.d_look_say
  exact df_of F sc_look_say hb fun cdv A outer s H E hr =>
    (ss_cons (ss_expr (es_call (tks_of rfl rfl rfl rfl) (d_look_tiding T) (hr.mono (by omega)) rfl T.g_look_tiding T.k_look_tiding (as_cons (es_ix (es_var (pv 0)) (es_int)) (as_cons (es_ix (es_var (pv 0)) (es_int)) (as_cons (es_ix (es_var (pv 0)) (es_int)) (as_cons (es_ix (es_var (pv 0)) (es_int)) (as_nil)))))))
      (ss_cons (ss_expr (es_call (tks_of rfl rfl rfl rfl) (d_must T) (hr.mono (by omega)) rfl T.g_must T.k_must (as_cons (es_cmp (c_in hr.u65) (es_ix (es_var (pv 0)) (es_int)) (es_tup (as_cons (es_bl) (as_cons (es_bl) (as_nil))))) (as_nil))))
      (ss_one (ss_expr (es_call (tks_of rfl rfl rfl rfl) (d_must T) (hr.mono (by omega)) rfl T.g_must T.k_must (as_cons (es_if (ts_cmp (c_gt) (es_ix (es_var (pv 0)) (es_int)) (es_int) (nomark _)) (es_call (tks_of rfl rfl rfl rfl) (d_is_id T) (hr.mono (by omega)) rfl T.g_is_id T.k_is_id (as_cons (es_ix (es_var (pv 0)) (es_int)) (as_nil))) (es_and (es_cmp (c_eq hr.units) (es_ix (es_var (pv 0)) (es_int)) (es_int) (nomark _)) (es_one (es_not (es_ix (es_var (pv 0)) (es_int)))))) (as_nil)))))))
theorem d_rest_bytes (T : Txt w K mg A) : Df true P w K mg base J 4 1 A.f_rest_bytes m_rest_bytes := by
  obtain ⟨fd, F, hb⟩ := T.d_rest_bytes
  exact df_of F sc_rest_bytes hb fun cdv A outer s H E hr =>
    (ss_cons (ss_asg (es_ix (es_var (pv 0)) (es_int)) (gs_name (pg_name (i := 1) sc_rest_bytes.nd rfl (by first | exact Or.inl rfl | exact Or.inr rfl))))
      (ss_cons (ss_if (ts_cmp (c_eq hr.units) (es_var (pv 1)) (es_str) (nomark _)) (ss_one (ss_ret (es_add isF (es_call (tks_of rfl rfl rfl rfl) (d_text_bytes T) (hr.mono (by omega)) rfl T.g_text_bytes T.k_text_bytes (as_cons (es_ix (es_var (pv 0)) (es_int)) (as_nil))) (es_call (tks_of rfl rfl rfl rfl) (d_will_bytes T) (hr.mono (by omega)) rfl T.g_will_bytes T.k_will_bytes (as_cons (es_var (pv 0)) (as_nil)))))) (ss_nil))
      (ss_cons (ss_if (ts_cmp (c_eq hr.units) (es_var (pv 1)) (es_str) (nomark _)) (ss_one (ss_ret (es_lst isF (as_cons (es_y1 (b_int) rfl T.n_int (by decide +kernel) (es_ix (es_var (pv 0)) (es_int))) (as_nil))))) (ss_nil))
      (ss_cons (ss_if (ts_cmp (c_eq hr.units) (es_var (pv 1)) (es_str) (nomark _)) (ss_cons (ss_asg (es_if (ts_cmp (c_gt) (es_ix (es_var (pv 0)) (es_int)) (es_int) (nomark _)) (es_call (tks_of rfl rfl rfl rfl) (d_id_bytes T) (hr.mono (by omega)) rfl T.g_id_bytes T.k_id_bytes (as_cons (es_ix (es_var (pv 0)) (es_int)) (as_nil))) (es_lst isF (as_nil))) (gs_name (pg_name (i := 2) sc_rest_bytes.nd rfl (by first | exact Or.inl rfl | exact Or.inr rfl))))
      (ss_one (ss_ret (es_add isF (es_add isF (es_call (tks_of rfl rfl rfl rfl) (d_text_bytes T) (hr.mono (by omega)) rfl T.g_text_bytes T.k_text_bytes (as_cons (es_ix (es_var (pv 0)) (es_int)) (as_nil))) (es_var (pv 2))) (es_lc (own := [("sign", 5)]) isF rfl sc_rest_bytes.nd (is_seq (es_ix (es_var (pv 0)) (es_int))) (blkOk_by (own := [("sign", 5)]) (N := ["packet", "word", "number", "found", "one", "sign"]) (sc := defScope s_rest_bytes) (by decide +kernel)) (by decide) (fun _ _ _ _ _ => gs_name (pg_name (i := 5) sc_rest_bytes.nd rfl (by first | exact Or.inl rfl | exact Or.inr rfl))) (fun _ _ _ _ _ => tts_nil) (fun _ _ _ _ _ => es_b1 (b_ord) rfl T.n_ord (by decide +kernel) (es_var (pv 5)))))))) (ss_nil))
      (ss_cons (ss_if (ts_cmp (c_eq hr.units) (es_b1 (b_len) rfl T.n_len (by decide +kernel) (es_var (pv 0))) (es_int) (nomark _)) (ss_one (ss_ret (es_lst isF (as_nil)))) (ss_nil))
      (ss_cons (ss_asg (es_call (tks_of rfl rfl rfl rfl) (d_id_bytes T) (hr.mono (by omega)) rfl T.g_id_bytes T.k_id_bytes (as_cons (es_ix (es_var (pv 0)) (es_int)) (as_nil))) (gs_name (pg_name (i := 3) sc_rest_bytes.nd rfl (by first | exact Or.inl rfl | exact Or.inr rfl))))
      (ss_cons (ss_for (passes_of rfl) rfl (is_seq (es_if (ts_cmp (c_eq hr.units) (es_b1 (b_len) rfl T.n_len (by decide +kernel) (es_var (pv 0))) (es_int) (nomark _)) (es_ix (es_var (pv 0)) (es_int)) (es_tup (as_nil)))) (gs_name (pg_name (i := 4) sc_rest_bytes.nd rfl (by first | exact Or.inl rfl | exact Or.inr rfl))) (ss_one (ss_if (ts_cmp (c_eq hr.units) (es_var (pv 1)) (es_str) (nomark _)) (ss_one (ss_expr (es_bm1 m_append (es_var (pv 3)) (es_var (pv 4))))) (ss_one (ss_if (ts_cmp (c_eq hr.units) (es_var (pv 1)) (es_str) (nomark _)) (ss_one (ss_expr (es_bm1 m_extend (es_var (pv 3)) (es_call (tks_of rfl rfl rfl rfl) (d_text_bytes T) (hr.mono (by omega)) rfl T.g_text_bytes T.k_text_bytes (as_cons (es_var (pv 4)) (as_nil)))))) (ss_one (ss_expr (es_bm1 m_extend (es_var (pv 3)) (es_add isF (es_call (tks_of rfl rfl rfl rfl) (d_text_bytes T) (hr.mono (by omega)) rfl T.g_text_bytes T.k_text_bytes (as_cons (es_ix (es_var (pv 4)) (es_int)) (as_nil))) (es_lst isF (as_cons (es_ix (es_var (pv 4)) (es_int)) (as_nil))))))))))))
      (ss_one (ss_ret (es_var (pv 3)))))))))))
theorem d_Bytes_counted (T : Txt w K mg A) : Df true P w K mg base J 4 1 A.f_Bytes_counted m_Bytes_counted := by
  obtain ⟨fd, F, hb⟩ := T.d_Bytes_counted
  exact df_of F sc_Bytes_counted hb fun cdv A outer s H E hr =>
    (ss_one (ss_ret (es_meth (tks_of rfl rfl rfl rfl) T.me_Bytes_text (d_Bytes_text T) (hr.mono (by omega)) (es_var (pv 0)) (as_cons (es_meth0 (tks_of rfl rfl rfl rfl) T.me_Bytes_number (d_Bytes_number T) (hr.mono (by omega)) (es_var (pv 0))) (as_nil)))))
theorem d_law_pick (T : Txt w K mg A) : Df true P w K mg base J 4 3 A.f_law_pick m_law_pick := by
  obtain ⟨fd, F, hb⟩ := T.d_law_pick
  exact df_of F sc_law_pick hb fun cdv A outer s H E hr =>
    (ss_one (ss_ret (es_ix (es_var (pv 2)) (es_call (tks_of rfl rfl rfl rfl) (d_law_draw T) (hr.mono (by omega)) rfl T.g_law_draw T.k_law_draw (as_cons (es_var (pv 0)) (as_cons (es_var (pv 1)) (as_cons (es_b1 (b_len) rfl T.n_len (by decide +kernel) (es_var (pv 2))) (as_nil))))))))
theorem d_law_bytes (T : Txt w K mg A) : Df true P w K mg base J 4 1 A.f_law_bytes m_law_bytes := by
  obtain ⟨fd, F, hb⟩ := T.d_law_bytes
  exact df_of F sc_law_bytes hb fun cdv A outer s H E hr =>
    (ss_cons (ss_asg (es_lst isF (as_cons (es_str) (as_cons (es_str) (as_cons (es_str) (as_cons (es_str) (as_cons (es_str) (as_cons (es_str) (as_cons (es_str) (as_cons (es_str) (as_cons (es_str) (as_cons (es_str) (as_cons (es_str) (as_cons (es_str) (as_nil)))))))))))))) (gs_name (pg_name (i := 1) sc_law_bytes.nd rfl (by first | exact Or.inl rfl | exact Or.inr rfl))))
      (ss_cons (ss_asg (es_mul (es_int) (es_add isF (es_int) (es_bm1 m_index (es_add isF (es_var (pv 1)) (es_lst isF (as_cons (es_str) (as_cons (es_str) (as_nil))))) (es_ix (es_var (pv 0)) (es_int))))) (gs_name (pg_name (i := 2) sc_law_bytes.nd rfl (by first | exact Or.inl rfl | exact Or.inr rfl))))
      (ss_cons (ss_if (ts_cmp (c_eq hr.units) (es_ix (es_var (pv 0)) (es_int)) (es_str) (nomark _)) (ss_one (ss_asg (es_add isF (es_add isF (es_add isF (es_var (pv 2)) (es_mul (es_int) (es_y1 (b_int) rfl T.n_int (by decide +kernel) (es_ix (es_var (pv 0)) (es_int))))) (es_mul (es_int) (es_ix (es_var (pv 0)) (es_int)))) (es_y1 (b_int) rfl T.n_int (by decide +kernel) (es_ix (es_var (pv 0)) (es_int)))) (gs_name (pg_name (i := 2) sc_law_bytes.nd rfl (by first | exact Or.inl rfl | exact Or.inr rfl))))) (ss_nil))
      (ss_cons (ss_asg (es_call (tks_of rfl rfl rfl rfl) (d_law_rest T) (hr.mono (by omega)) rfl T.g_law_rest T.k_law_rest (as_cons (es_var (pv 0)) (as_nil))) (gs_name (pg_name (i := 3) sc_law_bytes.nd rfl (by first | exact Or.inl rfl | exact Or.inr rfl))))
      (ss_cons (ss_asg (es_b1 (b_len) rfl T.n_len (by decide +kernel) (es_var (pv 3))) (gs_name (pg_name (i := 4) sc_law_bytes.nd rfl (by first | exact Or.inl rfl | exact Or.inr rfl))))
      (ss_one (ss_ret (es_add isF (es_add isF (es_lst isF (as_cons (es_var (pv 2)) (as_nil))) (es_if (ts_cmp (c_lt) (es_var (pv 4)) (es_int) (nomark _)) (es_lst isF (as_cons (es_var (pv 4)) (as_nil))) (es_lst isF (as_cons (es_add isF (es_mod (es_var (pv 4)) (es_int)) (es_int)) (as_cons (es_fdv (es_var (pv 4)) (es_int)) (as_nil)))))) (es_var (pv 3))))))))))
theorem d_look_whole (T : Txt w K mg A) : Df true P w K mg base J 5 1 A.f_look_whole m_look_whole := by
  obtain ⟨fd, F, hb⟩ := T.d_look_whole
  exact df_of F sc_look_whole hb fun cdv A outer s H E hr =>
    (ss_cons (ss_expr (es_call (tks_of rfl rfl rfl rfl) (d_must T) (hr.mono (by omega)) rfl T.g_must T.k_must (as_cons (es_and (es_cmp (c_gt) (es_b1 (b_len) rfl T.n_len (by decide +kernel) (es_var (pv 0))) (es_int) (nomark _)) (es_one (es_cmp (c_eq hr.units) (es_b1 (b_len) rfl T.n_len (by decide +kernel) (es_var (pv 0))) (es_kget2 rfl T.gv_LENGTHS T.kt_LENGTHS (es_ix (es_var (pv 0)) (es_int)) (es_kget2 rfl T.gv_MORE_LENGTHS T.kt_MORE_LENGTHS (es_ix (es_var (pv 0)) (es_int)) (es_int))) (nomark _)))) (as_nil))))
      (ss_cons (ss_asg (es_ix (es_var (pv 0)) (es_int)) (gs_name (pg_name (i := 1) sc_look_whole.nd rfl (by first | exact Or.inl rfl | exact Or.inr rfl))))
      (ss_one (ss_if (ts_cmp (c_eq hr.units) (es_var (pv 1)) (es_str) (nomark _)) (ss_cons (ss_expr (es_call (tks_of rfl rfl rfl rfl) (d_look_hearer T) (hr.mono (by omega)) rfl T.g_look_hearer T.k_look_hearer (as_cons (es_ix (es_var (pv 0)) (es_int)) (as_nil))))
      (ss_cons (ss_expr (es_call (tks_of rfl rfl rfl rfl) (d_must T) (hr.mono (by omega)) rfl T.g_must T.k_must (as_cons (es_cmp (c_in hr.u65) (es_ix (es_var (pv 0)) (es_int)) (es_tup (as_cons (es_bl) (as_cons (es_bl) (as_nil))))) (as_nil))))
      (ss_one (ss_if (ts_notN (es_ix (es_var (pv 0)) (es_int))) (ss_cons (ss_expr (es_call (tks_of rfl rfl rfl rfl) (d_must T) (hr.mono (by omega)) rfl T.g_must T.k_must (as_cons (es_cmp (c_eq hr.units) (es_b1 (b_len) rfl T.n_len (by decide +kernel) (es_ix (es_var (pv 0)) (es_int))) (es_int) (nomark _)) (as_nil))))
      (ss_one (ss_expr (es_call (tks_of rfl rfl rfl rfl) (d_look_tiding T) (hr.mono (by omega)) rfl T.g_look_tiding T.k_look_tiding (as_cons (es_ix (es_ix (es_var (pv 0)) (es_int)) (es_int)) (as_cons (es_ix (es_ix (es_var (pv 0)) (es_int)) (es_int)) (as_cons (es_ix (es_ix (es_var (pv 0)) (es_int)) (es_int)) (as_cons (es_ix (es_ix (es_var (pv 0)) (es_int)) (es_int)) (as_nil))))))))) (ss_nil))))) (ss_one (ss_if (ts_cmp (c_eq hr.units) (es_var (pv 1)) (es_str) (nomark _)) (ss_one (ss_expr (es_call (tks_of rfl rfl rfl rfl) (d_must T) (hr.mono (by omega)) rfl T.g_must T.k_must (as_cons (es_cmp (c_in hr.u65) (es_ix (es_var (pv 0)) (es_int)) (es_tup (as_cons (es_bl) (as_cons (es_bl) (as_nil))))) (as_nil))))) (ss_one (ss_if (ts_cmp (c_eq hr.units) (es_var (pv 1)) (es_str) (nomark _)) (ss_one (ss_expr (es_call (tks_of rfl rfl rfl rfl) (d_look_say T) (hr.mono (by omega)) rfl T.g_look_say T.k_look_say (as_cons (es_var (pv 0)) (as_nil))))) (ss_one (ss_if (ts_cmp (c_in hr.u65) (es_var (pv 1)) (es_tup (as_cons (es_str) (as_cons (es_str) (as_cons (es_str) (as_nil)))))) (ss_one (ss_expr (es_call (tks_of rfl rfl rfl rfl) (d_look_some T) (hr.mono (by omega)) rfl T.g_look_some T.k_look_some (as_cons (es_var (pv 0)) (as_nil))))) (ss_one (ss_if (ts_cmp (c_eq hr.units) (es_b1 (b_len) rfl T.n_len (by decide +kernel) (es_var (pv 0))) (es_int) (nomark _)) (ss_one (ss_expr (es_call (tks_of rfl rfl rfl rfl) (d_must T) (hr.mono (by omega)) rfl T.g_must T.k_must (as_cons (es_call (tks_of rfl rfl rfl rfl) (d_is_id T) (hr.mono (by omega)) rfl T.g_is_id T.k_is_id (as_cons (es_ix (es_var (pv 0)) (es_int)) (as_nil))) (as_nil))))) (ss_nil)))))))))))))
theorem d_read_connect (T : Txt w K mg A) : Df true P w K mg base J 5 1 A.f_read_connect m_read_connect := by
  obtain ⟨fd, F, hb⟩ := T.d_read_connect
  exact df_of F sc_read_connect hb fun cdv A outer s H E hr =>
    (ss_cons (ss_asg (es_meth0 (tks_of rfl rfl rfl rfl) T.me_Bytes_counted (d_Bytes_counted T) (hr.mono (by omega)) (es_var (pv 0))) (gs_name (pg_name (i := 1) sc_read_connect.nd rfl (by first | exact Or.inl rfl | exact Or.inr rfl))))
      (ss_cons (ss_asg (es_meth0 (tks_of rfl rfl rfl rfl) T.me_Bytes_byte (d_Bytes_byte T) (hr.mono (by omega)) (es_var (pv 0))) (gs_name (pg_name (i := 2) sc_read_connect.nd rfl (by first | exact Or.inl rfl | exact Or.inr rfl))))
      (ss_cons (ss_asg (es_cmp (c_eq hr.units) (es_mod (es_fdv (es_var (pv 2)) (es_int)) (es_int)) (es_int) (nomark _)) (gs_name (pg_name (i := 3) sc_read_connect.nd rfl (by first | exact Or.inl rfl | exact Or.inr rfl))))
      (ss_cons (ss_if (ts_cmp (c_eq hr.units) (es_mod (es_fdv (es_var (pv 2)) (es_int)) (es_int)) (es_int) (nomark _)) (ss_one (ss_ret (es_tup (as_cons (es_str) (as_cons (es_var (pv 1)) (as_cons (es_var (pv 3)) (as_cons (es_non) (as_nil)))))))) (ss_nil))
      (ss_cons (ss_asg (es_meth0 (tks_of rfl rfl rfl rfl) T.me_Bytes_counted (d_Bytes_counted T) (hr.mono (by omega)) (es_var (pv 0))) (gs_name (pg_name (i := 4) sc_read_connect.nd rfl (by first | exact Or.inl rfl | exact Or.inr rfl))))
      (ss_one (ss_ret (es_tup (as_cons (es_str) (as_cons (es_var (pv 1)) (as_cons (es_var (pv 3)) (as_cons (es_tup (as_cons (es_var (pv 4)) (as_cons (es_meth0 (tks_of rfl rfl rfl rfl) T.me_Bytes_counted (d_Bytes_counted T) (hr.mono (by omega)) (es_var (pv 0))) (as_cons (es_mod (es_fdv (es_var (pv 2)) (es_int)) (es_int)) (as_cons (es_cmp (c_eq hr.units) (es_mod (es_fdv (es_var (pv 2)) (es_int)) (es_int)) (es_int) (nomark _)) (as_nil)))))) (as_nil)))))))))))))
theorem d_read_say (T : Txt w K mg A) : Df true P w K mg base J 5 2 A.f_read_say m_read_say := by
  obtain ⟨fd, F, hb⟩ := T.d_read_say
  exact df_of F sc_read_say hb fun cdv A outer s H E hr =>
    (ss_cons (ss_asg (es_meth0 (tks_of rfl rfl rfl rfl) T.me_Bytes_counted (d_Bytes_counted T) (hr.mono (by omega)) (es_var (pv 0))) (gs_name (pg_name (i := 2) sc_read_say.nd rfl (by first | exact Or.inl rfl | exact Or.inr rfl))))
      (ss_cons (ss_asg (es_mod (es_fdv (es_var (pv 1)) (es_int)) (es_int)) (gs_name (pg_name (i := 3) sc_read_say.nd rfl (by first | exact Or.inl rfl | exact Or.inr rfl))))
      (ss_cons (ss_asg (es_if (ts_cmp (c_gt) (es_var (pv 3)) (es_int) (nomark _)) (es_meth0 (tks_of rfl rfl rfl rfl) T.me_Bytes_number (d_Bytes_number T) (hr.mono (by omega)) (es_var (pv 0))) (es_int)) (gs_name (pg_name (i := 4) sc_read_say.nd rfl (by first | exact Or.inl rfl | exact Or.inr rfl))))
      (ss_cons (ss_asg (es_meth (tks_of rfl rfl rfl rfl) T.me_Bytes_text (d_Bytes_text T) (hr.mono (by omega)) (es_var (pv 0)) (as_cons (es_sub (es_b1 (b_len) rfl T.n_len (by decide +kernel) (es_fld T.a_Bytes_row (es_var (pv 0)))) (es_fld T.a_Bytes_spot (es_var (pv 0)))) (as_nil))) (gs_name (pg_name (i := 5) sc_read_say.nd rfl (by first | exact Or.inl rfl | exact Or.inr rfl))))
      (ss_one (ss_ret (es_tup (as_cons (es_str) (as_cons (es_var (pv 2)) (as_cons (es_var (pv 5)) (as_cons (es_var (pv 3)) (as_cons (es_cmp (c_eq hr.units) (es_mod (es_var (pv 1)) (es_int)) (es_int) (nomark _)) (as_cons (es_cmp (c_eq hr.units) (es_fdv (es_var (pv 1)) (es_int)) (es_int) (nomark _)) (as_cons (es_var (pv 4)) (as_nil)))))))))))))))
theorem d_read_some (T : Txt w K mg A) : Df true P w K mg base J 5 2 A.f_read_some m_read_some := by
  obtain ⟨fd, F, hb⟩ := T.d_read_some
  exact df_of F sc_read_some hb fun cdv A outer s H E hr =>
    (ss_cons (ss_asg (es_meth0 (tks_of rfl rfl rfl rfl) T.me_Bytes_number (d_Bytes_number T) (hr.mono (by omega)) (es_var (pv 0))) (gs_name (pg_name (i := 2) sc_read_some.nd rfl (by first | exact Or.inl rfl | exact Or.inr rfl))))
      (ss_cons (ss_asg (es_lst isM (as_nil)) (gs_name (pg_name (i := 3) sc_read_some.nd rfl (by first | exact Or.inl rfl | exact Or.inr rfl))))
      (ss_cons (ss_while 100000 (passes_of rfl) (ts_not (ts_tru (es_meth0 (tks_of rfl rfl rfl rfl) T.me_Bytes_is_end (d_Bytes_is_end T) (hr.mono (by omega)) (es_var (pv 0))))) (ss_one (ss_if (ts_cmp (c_eq hr.units) (es_var (pv 1)) (es_str) (nomark _)) (ss_one (ss_expr (es_bm1 m_append (es_var (pv 3)) (es_meth0 (tks_of rfl rfl rfl rfl) T.me_Bytes_byte (d_Bytes_byte T) (hr.mono (by omega)) (es_var (pv 0)))))) (ss_one (ss_if (ts_cmp (c_eq hr.units) (es_var (pv 1)) (es_str) (nomark _)) (ss_one (ss_expr (es_bm1 m_append (es_var (pv 3)) (es_meth0 (tks_of rfl rfl rfl rfl) T.me_Bytes_counted (d_Bytes_counted T) (hr.mono (by omega)) (es_var (pv 0)))))) (ss_cons (ss_asg (es_meth0 (tks_of rfl rfl rfl rfl) T.me_Bytes_counted (d_Bytes_counted T) (hr.mono (by omega)) (es_var (pv 0))) (gs_name (pg_name (i := 4) sc_read_some.nd rfl (by first | exact Or.inl rfl | exact Or.inr rfl))))
      (ss_one (ss_expr (es_bm1 m_append (es_var (pv 3)) (es_tup (as_cons (es_var (pv 4)) (as_cons (es_meth0 (tks_of rfl rfl rfl rfl) T.me_Bytes_byte (d_Bytes_byte T) (hr.mono (by omega)) (es_var (pv 0))) (as_nil)))))))))))))
      (ss_one (ss_ret (es_tup (as_cons (es_var (pv 1)) (as_cons (es_var (pv 2)) (as_cons (es_y1 (b_tuple) rfl T.n_tuple (by decide +kernel) (es_var (pv 3))) (as_nil))))))))))
theorem d_law_signs (T : Txt w K mg A) : Df true P w K mg base J 5 4 A.f_law_signs m_law_signs := by
  obtain ⟨fd, F, hb⟩ := T.d_law_signs
  exact df_of F sc_law_signs hb fun cdv A outer s H E hr =>
    (ss_cons (ss_asg (es_str) (gs_name (pg_name (i := 4) sc_law_signs.nd rfl (by first | exact Or.inl rfl | exact Or.inr rfl))))
      (ss_cons (ss_asg (es_str) (gs_name (pg_name (i := 5) sc_law_signs.nd rfl (by first | exact Or.inl rfl | exact Or.inr rfl))))
      (ss_cons (ss_for (passes_of rfl) rfl (is_range rfl T.n_range (es_var (pv 2))) (gs_name (pg_name (i := 6) sc_law_signs.nd rfl (by first | exact Or.inl rfl | exact Or.inr rfl))) (ss_cons (ss_asg (es_call (tks_of rfl rfl rfl rfl) (d_law_pick T) (hr.mono (by omega)) rfl T.g_law_pick T.k_law_pick (as_cons (es_var (pv 0)) (as_cons (es_var (pv 1)) (as_cons (es_var (pv 4)) (as_nil))))) (gs_name (pg_name (i := 7) sc_law_signs.nd rfl (by first | exact Or.inl rfl | exact Or.inr rfl))))
      (ss_one (ss_asg (es_add isF (es_var (pv 5)) (es_if (ts_w (ws_and (ts_cmp (c_in hr.u65) (es_var (pv 7)) (es_str)) (ws_and1 (ts_not (ts_tru (es_var (pv 3))))))) (es_str) (es_var (pv 7)))) (gs_name (pg_name (i := 5) sc_law_signs.nd rfl (by first | exact Or.inl rfl | exact Or.inr rfl)))))))
      (ss_one (ss_ret (es_var (pv 5)))))))
theorem d_law_hearer (T : Txt w K mg A) : Df true P w K mg base J 5 2 A.f_law_hearer m_law_hearer := by
  obtain ⟨fd, F, hb⟩ := T.d_law_hearer
  exact df_of F sc_law_hearer hb fun cdv A outer s H E hr =>
    (ss_cons (ss_asg (es_str) (gs_name (pg_name (i := 2) sc_law_hearer.nd rfl (by first | exact Or.inl rfl | exact Or.inr rfl))))
      (ss_cons (ss_asg (es_str) (gs_name (pg_name (i := 3) sc_law_hearer.nd rfl (by first | exact Or.inl rfl | exact Or.inr rfl))))
      (ss_cons (ss_for (passes_of rfl) rfl (is_range rfl T.n_range (es_add isF (es_int) (es_call (tks_of rfl rfl rfl rfl) (d_law_pick T) (hr.mono (by omega)) rfl T.g_law_pick T.k_law_pick (as_cons (es_var (pv 0)) (as_cons (es_var (pv 1)) (as_cons (es_lst isF (as_cons (es_int) (as_cons (es_int) (as_cons (es_int) (as_cons (es_int) (as_nil)))))) (as_nil))))))) (gs_name (pg_name (i := 4) sc_law_hearer.nd rfl (by first | exact Or.inl rfl | exact Or.inr rfl))) (ss_one (ss_asg (es_add isF (es_var (pv 3)) (es_ix (es_var (pv 2)) (es_call (tks_of rfl rfl rfl rfl) (d_law_draw T) (hr.mono (by omega)) rfl T.g_law_draw T.k_law_draw (as_cons (es_var (pv 0)) (as_cons (es_var (pv 1)) (as_cons (es_int) (as_nil))))))) (gs_name (pg_name (i := 3) sc_law_hearer.nd rfl (by first | exact Or.inl rfl | exact Or.inr rfl))))))
      (ss_one (ss_ret (es_var (pv 3)))))))
theorem d_law_id (T : Txt w K mg A) : Df true P w K mg base J 5 2 A.f_law_id m_law_id := by
  obtain ⟨fd, F, hb⟩ := T.d_law_id
  exact df_of F sc_law_id hb fun cdv A outer s H E hr =>
    (ss_one (ss_ret (es_add isF (es_int) (es_call (tks_of rfl rfl rfl rfl) (d_law_draw T) (hr.mono (by omega)) rfl T.g_law_draw T.k_law_draw (as_cons (es_var (pv 0)) (as_cons (es_var (pv 1)) (as_cons (es_call (tks_of rfl rfl rfl rfl) (d_law_pick T) (hr.mono (by omega)) rfl T.g_law_pick T.k_law_pick (as_cons (es_var (pv 0)) (as_cons (es_var (pv 1)) (as_cons (es_lst isF (as_cons (es_int) (as_cons (es_int) (as_cons (es_int) (as_cons (es_int) (as_nil)))))) (as_nil))))) (as_nil))))))))
theorem d_law_bad (T : Txt w K mg A) : Df true P w K mg base J 5 2 A.f_law_bad m_law_bad := by
  obtain ⟨fd, F, hb⟩ := T.d_law_bad
  exact df_of F sc_law_bad hb fun cdv A outer s H E hr =>
    (ss_cons (ss_asg (es_lst isF (as_cons (es_tup (as_nil)) (as_cons (es_tup (as_cons (es_str) (as_nil))) (as_cons (es_tup (as_cons (es_str) (as_cons (es_int) (as_nil)))) (as_cons (es_tup (as_cons (es_str) (as_cons (es_int) (as_nil)))) (as_cons (es_tup (as_cons (es_str) (as_cons (es_int) (as_nil)))) (as_cons (es_tup (as_cons (es_str) (as_cons (es_str) (as_cons (es_str) (as_cons (es_int) (as_cons (es_bl) (as_cons (es_bl) (as_cons (es_int) (as_nil))))))))) (as_cons (es_tup (as_cons (es_str) (as_nil))) (as_nil))))))))) (gs_name (pg_name (i := 2) sc_law_bad.nd rfl (by first | exact Or.inl rfl | exact Or.inr rfl))))
      (ss_cons (ss_asg (es_add isF (es_var (pv 2)) (es_lst isF (as_cons (es_tup (as_cons (es_str) (as_cons (es_str) (as_cons (es_str) (as_cons (es_int) (as_cons (es_bl) (as_cons (es_bl) (as_cons (es_int) (as_nil))))))))) (as_cons (es_tup (as_cons (es_str) (as_cons (es_str) (as_cons (es_str) (as_cons (es_int) (as_cons (es_bl) (as_cons (es_bl) (as_cons (es_int) (as_nil))))))))) (as_cons (es_tup (as_cons (es_str) (as_nil))) (as_nil)))))) (gs_name (pg_name (i := 2) sc_law_bad.nd rfl (by first | exact Or.inl rfl | exact Or.inr rfl))))
      (ss_cons (ss_asg (es_add isF (es_var (pv 2)) (es_lst isF (as_cons (es_tup (as_cons (es_str) (as_cons (es_str) (as_cons (es_str) (as_cons (es_int) (as_cons (es_bl) (as_cons (es_bl) (as_cons (es_int) (as_nil))))))))) (as_cons (es_tup (as_cons (es_str) (as_cons (es_str) (as_cons (es_str) (as_cons (es_int) (as_cons (es_bl) (as_cons (es_bl) (as_cons (es_int) (as_nil))))))))) (as_nil))))) (gs_name (pg_name (i := 2) sc_law_bad.nd rfl (by first | exact Or.inl rfl | exact Or.inr rfl))))
      (ss_cons (ss_asg (es_add isF (es_var (pv 2)) (es_lst isF (as_cons (es_tup (as_cons (es_str) (as_cons (es_str) (as_cons (es_repS (es_str) (es_int)) (as_cons (es_int) (as_cons (es_bl) (as_cons (es_bl) (as_cons (es_int) (as_nil))))))))) (as_cons (es_tup (as_cons (es_str) (as_cons (es_str) (as_cons (es_bl) (as_cons (es_non) (as_nil)))))) (as_cons (es_tup (as_cons (es_str) (as_cons (es_int) (as_cons (es_tup (as_nil)) (as_nil))))) (as_nil)))))) (gs_name (pg_name (i := 2) sc_law_bad.nd rfl (by first | exact Or.inl rfl | exact Or.inr rfl))))
      (ss_cons (ss_asg (es_add isF (es_var (pv 2)) (es_lst isF (as_cons (es_tup (as_cons (es_str) (as_cons (es_str) (as_cons (es_bl) (as_cons (es_tup (as_cons (es_str) (as_cons (es_str) (as_cons (es_int) (as_nil))))) (as_nil)))))) (as_cons (es_tup (as_cons (es_str) (as_cons (es_str) (as_cons (es_bl) (as_cons (es_tup (as_cons (es_str) (as_cons (es_str) (as_cons (es_int) (as_cons (es_bl) (as_nil)))))) (as_nil)))))) (as_nil))))) (gs_name (pg_name (i := 2) sc_law_bad.nd rfl (by first | exact Or.inl rfl | exact Or.inr rfl))))
      (ss_cons (ss_asg (es_add isF (es_var (pv 2)) (es_lst isF (as_cons (es_tup (as_cons (es_str) (as_cons (es_int) (as_cons (es_tup (as_cons (es_tup (as_cons (es_str) (as_cons (es_int) (as_nil)))) (as_nil))) (as_nil))))) (as_cons (es_tup (as_cons (es_str) (as_cons (es_int) (as_cons (es_tup (as_cons (es_tup (as_cons (es_str) (as_cons (es_int) (as_cons (es_int) (as_nil))))) (as_nil))) (as_nil))))) (as_cons (es_tup (as_cons (es_str) (as_cons (es_int) (as_cons (es_tup (as_cons (es_tup (as_cons (es_str) (as_cons (es_int) (as_nil)))) (as_nil))) (as_nil))))) (as_cons (es_tup (as_cons (es_str) (as_cons (es_int) (as_cons (es_tup (as_cons (es_str) (as_nil))) (as_nil))))) (as_nil))))))) (gs_name (pg_name (i := 2) sc_law_bad.nd rfl (by first | exact Or.inl rfl | exact Or.inr rfl))))
      (ss_cons (ss_asg (es_add isF (es_var (pv 2)) (es_lst isF (as_cons (es_tup (as_cons (es_str) (as_cons (es_int) (as_cons (es_tup (as_cons (es_int) (as_nil))) (as_nil))))) (as_cons (es_tup (as_cons (es_str) (as_cons (es_int) (as_cons (es_repT (es_tup (as_cons (es_int) (as_nil))) (es_int)) (as_nil))))) (as_cons (es_tup (as_cons (es_str) (as_cons (es_int) (as_cons (es_tup (as_cons (es_str) (as_nil))) (as_nil))))) (as_cons (es_tup (as_cons (es_str) (as_cons (es_str) (as_cons (es_bl) (as_cons (es_non) (as_nil)))))) (as_nil))))))) (gs_name (pg_name (i := 2) sc_law_bad.nd rfl (by first | exact Or.inl rfl | exact Or.inr rfl))))
      (ss_one (ss_ret (es_call (tks_of rfl rfl rfl rfl) (d_law_pick T) (hr.mono (by omega)) rfl T.g_law_pick T.k_law_pick (as_cons (es_var (pv 0)) (as_cons (es_var (pv 1)) (as_cons (es_add isF (es_var (pv 2)) (es_lst isF (as_cons (es_tup (as_cons (es_str) (as_nil))) (as_cons (es_tup (as_cons (es_str) (as_cons (es_neg (es_int)) (as_nil)))) (as_cons (es_tup (as_cons (es_str) (as_cons (es_str) (as_cons (es_str) (as_cons (es_int) (as_cons (es_bl) (as_cons (es_bl) (as_cons (es_int) (as_nil))))))))) (as_nil)))))) (as_nil))))))))))))))
theorem d_look_packet (T : Txt w K mg A) : Df false P w K mg base J 6 1 A.f_look_packet m_look_packet := by
  obtain ⟨fd, F, hb⟩ := T.d_look_packet
  exact df_of F sc_look_packet hb fun cdv A outer s H E hr =>
    (ss_one (ss_try_raise rfl rfl ⟨rfl, by decide, .inl T.gc_BadName⟩ (fun hd => L2H.passesAt_of rfl hd) ((Tks.up (tks_of (z := false) rfl rfl rfl rfl))) T.xm_BadName T.xn_BadName (fun W pn xe tk po => ss_one (ss_expr (es_call tk (d_look_whole T) (hr.mono (by omega)) rfl T.g_look_whole T.k_look_whole (as_cons (es_var (pv 0)) (as_nil))))) (c := 3) rfl PySem.F.excBase_ValueError T.x_BadPacket T.gc_BadPacket T.kc_BadPacket (raises_own T.b_BadPacket T.t_BadPacket) rfl))
theorem d_read_rest (T : Txt w K mg A) : Df true P w K mg base J 6 3 A.f_read_rest m_read_rest := by
  obtain ⟨fd, F, hb⟩ := T.d_read_rest
  exact df_of F sc_read_rest hb fun cdv A outer s H E hr =>
    (ss_cons (ss_if (ts_cmp (c_eq hr.units) (es_var (pv 0)) (es_str) (nomark _)) (ss_one (ss_ret (es_call (tks_of rfl rfl rfl rfl) (d_read_connect T) (hr.mono (by omega)) rfl T.g_read_connect T.k_read_connect (as_cons (es_var (pv 2)) (as_nil))))) (ss_nil))
      (ss_cons (ss_if (ts_cmp (c_eq hr.units) (es_var (pv 0)) (es_str) (nomark _)) (ss_one (ss_ret (es_tup (as_cons (es_str) (as_cons (es_cmp (c_eq hr.units) (es_meth0 (tks_of rfl rfl rfl rfl) T.me_Bytes_byte (d_Bytes_byte T) (hr.mono (by omega)) (es_var (pv 2))) (es_int) (nomark _)) (as_nil)))))) (ss_nil))
      (ss_cons (ss_if (ts_cmp (c_eq hr.units) (es_var (pv 0)) (es_str) (nomark _)) (ss_one (ss_ret (es_call (tks_of rfl rfl rfl rfl) (d_read_say T) (hr.mono (by omega)) rfl T.g_read_say T.k_read_say (as_cons (es_var (pv 2)) (as_cons (es_var (pv 1)) (as_nil)))))) (ss_nil))
      (ss_cons (ss_if (ts_cmp (c_in hr.u65) (es_var (pv 0)) (es_tup (as_cons (es_str) (as_cons (es_str) (as_cons (es_str) (as_nil)))))) (ss_one (ss_ret (es_call (tks_of rfl rfl rfl rfl) (d_read_some T) (hr.mono (by omega)) rfl T.g_read_some T.k_read_some (as_cons (es_var (pv 2)) (as_cons (es_var (pv 0)) (as_nil)))))) (ss_nil))
      (ss_one (ss_ret (es_if (ts_cmp (c_in hr.u65) (es_var (pv 0)) (es_glst rfl T.gv_MORE_KINDS T.kl_MORE_KINDS)) (es_tup (as_cons (es_var (pv 0)) (as_nil))) (es_tup (as_cons (es_var (pv 0)) (as_cons (es_meth0 (tks_of rfl rfl rfl rfl) T.me_Bytes_number (d_Bytes_number T) (hr.mono (by omega)) (es_var (pv 2))) (as_nil)))))))))))
theorem d_law_level (T : Txt w K mg A) : Df true P w K mg base J 6 2 A.f_law_level m_law_level := by
  obtain ⟨fd, F, hb⟩ := T.d_law_level
  exact df_of F sc_law_level hb fun cdv A outer s H E hr =>
    (ss_cons (ss_asg (es_call (tks_of rfl rfl rfl rfl) (d_law_draw T) (hr.mono (by omega)) rfl T.g_law_draw T.k_law_draw (as_cons (es_var (pv 0)) (as_cons (es_var (pv 1)) (as_cons (es_int) (as_nil))))) (gs_name (pg_name (i := 2) sc_law_level.nd rfl (by first | exact Or.inl rfl | exact Or.inr rfl))))
      (ss_cons (ss_if (ts_cmp (c_lt) (es_var (pv 2)) (es_int) (nomark _)) (ss_one (ss_ret (es_call (tks_of rfl rfl rfl rfl) (d_law_pick T) (hr.mono (by omega)) rfl T.g_law_pick T.k_law_pick (as_cons (es_var (pv 0)) (as_cons (es_var (pv 1)) (as_cons (es_lst isF (as_cons (es_str) (as_cons (es_str) (as_cons (es_str) (as_cons (es_str) (as_cons (es_str) (as_nil))))))) (as_nil))))))) (ss_nil))
      (ss_one (ss_ret (es_call (tks_of rfl rfl rfl rfl) (d_law_signs T) (hr.mono (by omega)) rfl T.g_law_signs T.k_law_signs (as_cons (es_var (pv 0)) (as_cons (es_var (pv 1)) (as_cons (es_call (tks_of rfl rfl rfl rfl) (d_law_pick T) (hr.mono (by omega)) rfl T.g_law_pick T.k_law_pick (as_cons (es_var (pv 0)) (as_cons (es_var (pv 1)) (as_cons (es_lst isF (as_cons (es_int) (as_cons (es_int) (as_cons (es_int) (as_cons (es_int) (as_nil)))))) (as_nil))))) (as_cons (es_bl) (as_nil))))))))))
theorem d_law_body (T : Txt w K mg A) : Df true P w K mg base J 6 2 A.f_law_body m_law_body := by
  obtain ⟨fd, F, hb⟩ := T.d_law_body
  exact df_of F sc_law_body hb fun cdv A outer s H E hr =>
    (ss_one (ss_ret (es_call (tks_of rfl rfl rfl rfl) (d_law_signs T) (hr.mono (by omega)) rfl T.g_law_signs T.k_law_signs (as_cons (es_var (pv 0)) (as_cons (es_var (pv 1)) (as_cons (es_call (tks_of rfl rfl rfl rfl) (d_law_pick T) (hr.mono (by omega)) rfl T.g_law_pick T.k_law_pick (as_cons (es_var (pv 0)) (as_cons (es_var (pv 1)) (as_cons (es_lst isF (as_cons (es_int) (as_cons (es_int) (as_cons (es_int) (as_cons (es_int) (as_cons (es_int) (as_nil))))))) (as_nil))))) (as_cons (es_bl) (as_nil))))))))
theorem d_written_packet (T : Txt w K mg A) : Df false P w K mg base J 7 1 A.f_written_packet m_written_packet := by
  obtain ⟨fd, F, hb⟩ := T.d_written_packet
  exact df_of F sc_written_packet hb fun cdv A outer s H E hr =>
    (ss_cons (ss_expr (es_call (Tks.up (tks_of (z := false) rfl rfl rfl rfl)) (d_look_packet T) (hr.mono (by omega)) rfl T.g_look_packet T.k_look_packet (as_cons (es_var (pv 0)) (as_nil))))
      (ss_cons (ss_asg (es_int) (gs_name (pg_name (i := 1) sc_written_packet.nd rfl (by first | exact Or.inl rfl | exact Or.inr rfl))))
      (ss_cons (ss_if (ts_cmp (c_eq hr.units) (es_ix (es_var (pv 0)) (es_int)) (es_str) (nomark _)) (ss_one (ss_asg (es_add isF (es_add isF (es_mul (es_int) (es_y1 (b_int) rfl T.n_int (by decide +kernel) (es_ix (es_var (pv 0)) (es_int)))) (es_mul (es_int) (es_ix (es_var (pv 0)) (es_int)))) (es_y1 (b_int) rfl T.n_int (by decide +kernel) (es_ix (es_var (pv 0)) (es_int)))) (gs_name (pg_name (i := 1) sc_written_packet.nd rfl (by first | exact Or.inl rfl | exact Or.inr rfl))))) (ss_nil))
      (ss_cons (ss_asg (es_call (Tks.up (tks_of (z := false) rfl rfl rfl rfl)) (d_rest_bytes T) (hr.mono (by omega)) rfl T.g_rest_bytes T.k_rest_bytes (as_cons (es_var (pv 0)) (as_nil))) (gs_name (pg_name (i := 2) sc_written_packet.nd rfl (by first | exact Or.inl rfl | exact Or.inr rfl))))
      (ss_one (ss_ret (es_add isF (es_add isF (es_lst isF (as_cons (es_add isF (es_mul (es_int) (es_call (Tks.up (tks_of (z := false) rfl rfl rfl rfl)) (d_kind_number T) (hr.mono (by omega)) rfl T.g_kind_number T.k_kind_number (as_cons (es_ix (es_var (pv 0)) (es_int)) (as_nil)))) (es_var (pv 1))) (as_nil))) (es_call (Tks.up (tks_of (z := false) rfl rfl rfl rfl)) (d_length_bytes T) (hr.mono (by omega)) rfl T.g_length_bytes T.k_length_bytes (as_cons (es_b1 (b_len) rfl T.n_len (by decide +kernel) (es_var (pv 2))) (as_nil)))) (es_var (pv 2)))))))))
theorem d_law_name (T : Txt w K mg A) : Df true P w K mg base J 7 2 A.f_law_name m_law_name := by
  obtain ⟨fd, F, hb⟩ := T.d_law_name
  exact df_of F sc_law_name hb fun cdv A outer s H E hr =>
    (ss_cons (ss_setLc (i := 2) (own := [("k", 3)]) isF rfl sc_law_name.nd rfl rfl (sw_true rfl rfl rfl (by decide +kernel)) (is_range rfl T.n_range (es_add isF (es_int) (es_call (tks_of rfl rfl rfl rfl) (d_law_pick T) (hr.mono (by omega)) rfl T.g_law_pick T.k_law_pick (as_cons (es_var (pv 0)) (as_cons (es_var (pv 1)) (as_cons (es_lst isF (as_cons (es_int) (as_cons (es_int) (as_cons (es_int) (as_cons (es_int) (as_nil)))))) (as_nil))))))) (blkOk_by (own := [("k", 3)]) (N := ["script", "town", "levels", "k"]) (sc := defScope s_law_name) (by decide +kernel)) (by decide) (fun _ _ _ _ _ => gs_name (pg_name (i := 3) sc_law_name.nd rfl (by first | exact Or.inl rfl | exact Or.inr rfl))) (fun _ _ _ _ _ => tts_nil) (fun _ _ _ _ _ => es_call tks0 (d_law_level T) (hr.mono (by omega)) rfl T.g_law_level T.k_law_level (as_cons (es_var (pv 0)) (as_cons (es_var (pv 1)) (as_nil)))))
      (ss_one (ss_ret (es_if (ts_cmp (c_ne hr.units) (es_var (pv 2)) (es_lst isF (as_cons (es_str) (as_nil))) (nomark _)) (es_bm1 m_join (es_str) (es_var (pv 2))) (es_str)))))
theorem d_law_wish (T : Txt w K mg A) : Df true P w K mg base J 7 2 A.f_law_wish m_law_wish := by
  obtain ⟨fd, F, hb⟩ := T.d_law_wish
  exact df_of F sc_law_wish hb fun cdv A outer s H E hr =>
    (ss_cons (ss_setLc (i := 2) (own := [("k", 3)]) isM rfl sc_law_wish.nd rfl rfl (sw_true rfl rfl rfl (by decide +kernel)) (is_range rfl T.n_range (es_add isF (es_int) (es_call (tks_of rfl rfl rfl rfl) (d_law_draw T) (hr.mono (by omega)) rfl T.g_law_draw T.k_law_draw (as_cons (es_var (pv 0)) (as_cons (es_var (pv 1)) (as_cons (es_int) (as_nil))))))) (blkOk_by (own := [("k", 3)]) (N := ["script", "town", "levels", "k"]) (sc := defScope s_law_wish) (by decide +kernel)) (by decide) (fun _ _ _ _ _ => gs_name (pg_name (i := 3) sc_law_wish.nd rfl (by first | exact Or.inl rfl | exact Or.inr rfl))) (fun _ _ _ _ _ => tts_nil) (fun _ _ _ _ _ => es_call tks0 (d_law_pick T) (hr.mono (by omega)) rfl T.g_law_pick T.k_law_pick (as_cons (es_var (pv 0)) (as_cons (es_var (pv 1)) (as_cons (es_lst isF (as_cons (es_call tks0 (d_law_level T) (hr.mono (by omega)) rfl T.g_law_level T.k_law_level (as_cons (es_var (pv 0)) (as_cons (es_var (pv 1)) (as_nil)))) (as_cons (es_str) (as_nil)))) (as_nil))))))
      (ss_cons (ss_if (ts_cmp (c_eq hr.units) (es_call (tks_of rfl rfl rfl rfl) (d_law_draw T) (hr.mono (by omega)) rfl T.g_law_draw T.k_law_draw (as_cons (es_var (pv 0)) (as_cons (es_var (pv 1)) (as_cons (es_int) (as_nil))))) (es_int) (nomark _)) (ss_one (ss_setI (es_var (pv 2)) (es_neg (es_int)) (es_str))) (ss_nil))
      (ss_one (ss_ret (es_if (ts_cmp (c_ne hr.units) (es_var (pv 2)) (es_lst isF (as_cons (es_str) (as_nil))) (nomark _)) (es_bm1 m_join (es_str) (es_var (pv 2))) (es_str))))))
theorem d_read_packet (T : Txt w K mg A) : Df false P w K mg base J 8 1 A.f_read_packet m_read_packet := by
  obtain ⟨fd, F, hb⟩ := T.d_read_packet
  exact df_of F sc_read_packet hb fun cdv A outer s H E hr =>
    (ss_cons (ss_asg (es_call (Tks.up (tks_of (z := false) rfl rfl rfl rfl)) (d_head_of T) (hr.mono (by omega)) rfl T.g_head_of T.k_head_of (as_cons (es_var (pv 0)) (as_nil))) (gs_name (pg_name (i := 1) sc_read_packet.nd rfl (by first | exact Or.inl rfl | exact Or.inr rfl))))
      (ss_cons (ss_if (ts_w (ws_or (ts_isN (es_var (pv 1))) (ws_or1 (ts_cmp (c_ne hr.units) (es_b1 (b_len) rfl T.n_len (by decide +kernel) (es_var (pv 0))) (es_add isF (es_ix (es_var (pv 1)) (es_int)) (es_ix (es_var (pv 1)) (es_int))) (nomark _))))) (ss_one (ss_raise (z := false) (c := 4) rfl rfl ((Tks.up (tks_of (z := false) rfl rfl rfl rfl))) PySem.F.excBase_ValueError T.x_BadBytes T.gc_BadBytes T.kc_BadBytes (raises_own T.b_BadBytes T.t_BadBytes) rfl)) (ss_nil))
      (ss_cons (ss_asg (es_make (Tks.up (tks_of (z := false) rfl rfl rfl rfl)) T.mk_Bytes (d_Bytes_init T) (hr.mono (by omega)) (m_Bytes_init_non) rfl rfl (as_cons (es_var (pv 0)) (as_nil))) (gs_name (pg_name (i := 2) sc_read_packet.nd rfl (by first | exact Or.inl rfl | exact Or.inr rfl))))
      (ss_cons (ss_setF T.a_Bytes_spot (es_var (pv 2)) (es_ix (es_var (pv 1)) (es_int)))
      (ss_cons (ss_asg (es_call (Tks.up (tks_of (z := false) rfl rfl rfl rfl)) (d_read_rest T) (hr.mono (by omega)) rfl T.g_read_rest T.k_read_rest (as_cons (es_ix (es_gcat rfl T.gv_KINDS T.kl_KINDS rfl T.gv_MORE_KINDS T.kl_MORE_KINDS) (es_fdv (es_ix (es_var (pv 1)) (es_int)) (es_int))) (as_cons (es_sub (es_ix (es_var (pv 1)) (es_int)) (es_mul (es_fdv (es_ix (es_var (pv 1)) (es_int)) (es_int)) (es_int))) (as_cons (es_var (pv 2)) (as_nil))))) (gs_name (pg_name (i := 3) sc_read_packet.nd rfl (by first | exact Or.inl rfl | exact Or.inr rfl))))
      (ss_cons (ss_asg (es_non) (gs_name (pg_name (i := 4) sc_read_packet.nd rfl (by first | exact Or.inl rfl | exact Or.inr rfl))))
      (ss_cons (ss_try_ok rfl rfl ⟨rfl, by decide, .inl T.gc_BadPacket⟩ ((Tks.up (tks_of (z := false) rfl rfl rfl rfl))) T.xn_BadPacket (fun W pn xe tk po => ss_one (ss_asg (es_call (Tks.up tk) (d_written_packet T) (hr.mono (by omega)) rfl T.g_written_packet T.k_written_packet (as_cons (es_var (pv 3)) (as_nil))) (gs_name (pg_name (i := 4) sc_read_packet.nd rfl (by first | exact Or.inl rfl | exact Or.inr rfl))))))
      (ss_cons (ss_if (ts_cmp (c_ne hr.units) (es_var (pv 4)) (es_var (pv 0)) (nomark _)) (ss_one (ss_raise (z := false) (c := 4) rfl rfl ((Tks.up (tks_of (z := false) rfl rfl rfl rfl))) PySem.F.excBase_ValueError T.x_BadBytes T.gc_BadBytes T.kc_BadBytes (raises_own T.b_BadBytes T.t_BadBytes) rfl)) (ss_nil))
      (ss_one (ss_ret (es_var (pv 3))))))))))))
theorem d_law_tiding (T : Txt w K mg A) : Df true P w K mg base J 8 2 A.f_law_tiding m_law_tiding := by
  obtain ⟨fd, F, hb⟩ := T.d_law_tiding
  exact df_of F sc_law_tiding hb fun cdv A outer s H E hr =>
    (ss_cons (ss_asg (es_call (tks_of rfl rfl rfl rfl) (d_law_body T) (hr.mono (by omega)) rfl T.g_law_body T.k_law_body (as_cons (es_var (pv 0)) (as_cons (es_var (pv 1)) (as_nil)))) (gs_name (pg_name (i := 2) sc_law_tiding.nd rfl (by first | exact Or.inl rfl | exact Or.inr rfl))))
      (ss_cons (ss_if (ts_cmp (c_eq hr.units) (es_call (tks_of rfl rfl rfl rfl) (d_law_draw T) (hr.mono (by omega)) rfl T.g_law_draw T.k_law_draw (as_cons (es_var (pv 0)) (as_cons (es_var (pv 1)) (as_cons (es_int) (as_nil))))) (es_int) (nomark _)) (ss_one (ss_asg (es_add isF (es_var (pv 2)) (es_repS (es_str) (es_call (tks_of rfl rfl rfl rfl) (d_law_pick T) (hr.mono (by omega)) rfl T.g_law_pick T.k_law_pick (as_cons (es_var (pv 0)) (as_cons (es_var (pv 1)) (as_cons (es_lst isF (as_cons (es_int) (as_cons (es_int) (as_cons (es_int) (as_cons (es_int) (as_nil)))))) (as_nil))))))) (gs_name (pg_name (i := 2) sc_law_tiding.nd rfl (by first | exact Or.inl rfl | exact Or.inr rfl))))) (ss_nil))
      (ss_one (ss_ret (es_tup (as_cons (es_call (tks_of rfl rfl rfl rfl) (d_law_name T) (hr.mono (by omega)) rfl T.g_law_name T.k_law_name (as_cons (es_var (pv 0)) (as_cons (es_var (pv 1)) (as_nil)))) (as_cons (es_var (pv 2)) (as_cons (es_call (tks_of rfl rfl rfl rfl) (d_law_draw T) (hr.mono (by omega)) rfl T.g_law_draw T.k_law_draw (as_cons (es_var (pv 0)) (as_cons (es_var (pv 1)) (as_cons (es_int) (as_nil))))) (as_cons (es_cmp (c_eq hr.units) (es_call (tks_of rfl rfl rfl rfl) (d_law_draw T) (hr.mono (by omega)) rfl T.g_law_draw T.k_law_draw (as_cons (es_var (pv 0)) (as_cons (es_var (pv 1)) (as_cons (es_int) (as_nil))))) (es_int) (nomark _)) (as_nil))))))))))
theorem d_law_packet (T : Txt w K mg A) : Df true P w K mg base J 9 2 A.f_law_packet m_law_packet := by
  obtain ⟨fd, F, hb⟩ := T.d_law_packet
  exact df_of F sc_law_packet hb fun cdv A outer s H E hr =>
    (ss_cons (ss_asg (es_lst isF (as_cons (es_str) (as_cons (es_str) (as_cons (es_str) (as_cons (es_str) (as_cons (es_str) (as_cons (es_str) (as_cons (es_str) (as_cons (es_str) (as_cons (es_str) (as_cons (es_str) (as_nil)))))))))))) (gs_name (pg_name (i := 2) sc_law_packet.nd rfl (by first | exact Or.inl rfl | exact Or.inr rfl))))
      (ss_cons (ss_asg (es_call (tks_of rfl rfl rfl rfl) (d_law_pick T) (hr.mono (by omega)) rfl T.g_law_pick T.k_law_pick (as_cons (es_var (pv 0)) (as_cons (es_var (pv 1)) (as_cons (es_var (pv 2)) (as_nil))))) (gs_name (pg_name (i := 3) sc_law_packet.nd rfl (by first | exact Or.inl rfl | exact Or.inr rfl))))
      (ss_cons (ss_if (ts_cmp (c_eq hr.units) (es_var (pv 3)) (es_str) (nomark _)) (ss_cons (ss_asg (es_if (ts_cmp (c_eq hr.units) (es_call (tks_of rfl rfl rfl rfl) (d_law_draw T) (hr.mono (by omega)) rfl T.g_law_draw T.k_law_draw (as_cons (es_var (pv 0)) (as_cons (es_var (pv 1)) (as_cons (es_int) (as_nil))))) (es_int) (nomark _)) (es_call (tks_of rfl rfl rfl rfl) (d_law_tiding T) (hr.mono (by omega)) rfl T.g_law_tiding T.k_law_tiding (as_cons (es_var (pv 0)) (as_cons (es_var (pv 1)) (as_nil)))) (es_non)) (gs_name (pg_name (i := 4) sc_law_packet.nd rfl (by first | exact Or.inl rfl | exact Or.inr rfl))))
      (ss_one (ss_ret (es_tup (as_cons (es_str) (as_cons (es_call (tks_of rfl rfl rfl rfl) (d_law_hearer T) (hr.mono (by omega)) rfl T.g_law_hearer T.k_law_hearer (as_cons (es_var (pv 0)) (as_cons (es_var (pv 1)) (as_nil)))) (as_cons (es_cmp (c_eq hr.units) (es_call (tks_of rfl rfl rfl rfl) (d_law_draw T) (hr.mono (by omega)) rfl T.g_law_draw T.k_law_draw (as_cons (es_var (pv 0)) (as_cons (es_var (pv 1)) (as_cons (es_int) (as_nil))))) (es_int) (nomark _)) (as_cons (es_var (pv 4)) (as_nil))))))))) (ss_nil))
      (ss_cons (ss_if (ts_cmp (c_eq hr.units) (es_var (pv 3)) (es_str) (nomark _)) (ss_cons (ss_asg (es_call (tks_of rfl rfl rfl rfl) (d_law_tiding T) (hr.mono (by omega)) rfl T.g_law_tiding T.k_law_tiding (as_cons (es_var (pv 0)) (as_cons (es_var (pv 1)) (as_nil)))) (gs_name (pg_name (i := 5) sc_law_packet.nd rfl (by first | exact Or.inl rfl | exact Or.inr rfl))))
      (ss_cons (ss_asg (es_if (ts_cmp (c_gt) (es_ix (es_var (pv 5)) (es_int)) (es_int) (nomark _)) (es_call (tks_of rfl rfl rfl rfl) (d_law_id T) (hr.mono (by omega)) rfl T.g_law_id T.k_law_id (as_cons (es_var (pv 0)) (as_cons (es_var (pv 1)) (as_nil)))) (es_int)) (gs_name (pg_name (i := 6) sc_law_packet.nd rfl (by first | exact Or.inl rfl | exact Or.inr rfl))))
      (ss_one (ss_ret (es_add isF (es_add isF (es_tup (as_cons (es_str) (as_nil))) (es_var (pv 5))) (es_tup (as_cons (es_and (es_cmp (c_gt) (es_var (pv 6)) (es_int) (nomark _)) (es_one (es_cmp (c_eq hr.units) (es_call (tks_of rfl rfl rfl rfl) (d_law_draw T) (hr.mono (by omega)) rfl T.g_law_draw T.k_law_draw (as_cons (es_var (pv 0)) (as_cons (es_var (pv 1)) (as_cons (es_int) (as_nil))))) (es_int) (nomark _)))) (as_cons (es_var (pv 6)) (as_nil))))))))) (ss_nil))
      (ss_cons (ss_if (ts_cmp (c_in hr.u65) (es_var (pv 3)) (es_tup (as_cons (es_str) (as_cons (es_str) (as_cons (es_str) (as_nil)))))) (ss_cons (ss_asg (es_lst isM (as_nil)) (gs_name (pg_name (i := 7) sc_law_packet.nd rfl (by first | exact Or.inl rfl | exact Or.inr rfl))))
      (ss_cons (ss_for (passes_of rfl) rfl (is_range rfl T.n_range (es_add isF (es_int) (es_call (tks_of rfl rfl rfl rfl) (d_law_pick T) (hr.mono (by omega)) rfl T.g_law_pick T.k_law_pick (as_cons (es_var (pv 0)) (as_cons (es_var (pv 1)) (as_cons (es_lst isF (as_cons (es_int) (as_cons (es_int) (as_cons (es_int) (as_cons (es_int) (as_nil)))))) (as_nil))))))) (gs_name (pg_name (i := 8) sc_law_packet.nd rfl (by first | exact Or.inl rfl | exact Or.inr rfl))) (ss_cons (ss_asg (es_call (tks_of rfl rfl rfl rfl) (d_law_wish T) (hr.mono (by omega)) rfl T.g_law_wish T.k_law_wish (as_cons (es_var (pv 0)) (as_cons (es_var (pv 1)) (as_nil)))) (gs_name (pg_name (i := 9) sc_law_packet.nd rfl (by first | exact Or.inl rfl | exact Or.inr rfl))))
      (ss_cons (ss_asg (es_call (tks_of rfl rfl rfl rfl) (d_law_draw T) (hr.mono (by omega)) rfl T.g_law_draw T.k_law_draw (as_cons (es_var (pv 0)) (as_cons (es_var (pv 1)) (as_cons (es_int) (as_nil))))) (gs_name (pg_name (i := 10) sc_law_packet.nd rfl (by first | exact Or.inl rfl | exact Or.inr rfl))))
      (ss_one (ss_expr (es_bm1 m_append (es_var (pv 7)) (es_dget hr.u1 (es_disp (dps_cons (es_tup (as_cons (es_var (pv 9)) (as_cons (es_var (pv 10)) (as_nil)))) (dps_cons (es_call (tks_of rfl rfl rfl rfl) (d_law_pick T) (hr.mono (by omega)) rfl T.g_law_pick T.k_law_pick (as_cons (es_var (pv 0)) (as_cons (es_var (pv 1)) (as_cons (es_lst isF (as_cons (es_var (pv 10)) (as_cons (es_int) (as_nil)))) (as_nil))))) (dps_cons (es_var (pv 9)) (dps_nil))))) (es_var (pv 3)))))))))
      (ss_one (ss_ret (es_tup (as_cons (es_var (pv 3)) (as_cons (es_call (tks_of rfl rfl rfl rfl) (d_law_id T) (hr.mono (by omega)) rfl T.g_law_id T.k_law_id (as_cons (es_var (pv 0)) (as_cons (es_var (pv 1)) (as_nil)))) (as_cons (es_y1 (b_tuple) rfl T.n_tuple (by decide +kernel) (es_var (pv 7))) (as_nil))))))))) (ss_nil))
      (ss_cons (ss_if (ts_cmp (c_eq hr.units) (es_var (pv 3)) (es_str) (nomark _)) (ss_one (ss_ret (es_tup (as_cons (es_str) (as_cons (es_cmp (c_eq hr.units) (es_call (tks_of rfl rfl rfl rfl) (d_law_draw T) (hr.mono (by omega)) rfl T.g_law_draw T.k_law_draw (as_cons (es_var (pv 0)) (as_cons (es_var (pv 1)) (as_cons (es_int) (as_nil))))) (es_int) (nomark _)) (as_nil)))))) (ss_nil))
      (ss_cons (ss_if (ts_w (ws_and (ts_cmp (c_eq hr.units) (es_var (pv 3)) (es_str) (nomark _)) (ws_and1 (ts_cmp (c_eq hr.units) (es_call (tks_of rfl rfl rfl rfl) (d_law_draw T) (hr.mono (by omega)) rfl T.g_law_draw T.k_law_draw (as_cons (es_var (pv 0)) (as_cons (es_var (pv 1)) (as_cons (es_int) (as_nil))))) (es_int) (nomark _))))) (ss_one (ss_ret (es_tup (as_cons (es_str) (as_nil))))) (ss_nil))
      (ss_cons (ss_asg (es_lst isF (as_cons (es_str) (as_cons (es_str) (as_cons (es_str) (as_cons (es_str) (as_cons (es_str) (as_nil))))))) (gs_name (pg_name (i := 2) sc_law_packet.nd rfl (by first | exact Or.inl rfl | exact Or.inr rfl))))
      (ss_one (ss_ret (es_if (ts_cmp (c_eq hr.units) (es_var (pv 3)) (es_str) (nomark _)) (es_tup (as_cons (es_call (tks_of rfl rfl rfl rfl) (d_law_pick T) (hr.mono (by omega)) rfl T.g_law_pick T.k_law_pick (as_cons (es_var (pv 0)) (as_cons (es_var (pv 1)) (as_cons (es_var (pv 2)) (as_nil))))) (as_cons (es_call (tks_of rfl rfl rfl rfl) (d_law_id T) (hr.mono (by omega)) rfl T.g_law_id T.k_law_id (as_cons (es_var (pv 0)) (as_cons (es_var (pv 1)) (as_nil)))) (as_nil)))) (es_tup (as_cons (es_var (pv 3)) (as_nil))))))))))))))
theorem d_law_told (T : Txt w K mg A) : Df true P w K mg base J 9 2 A.f_law_told m_law_told := by
  obtain ⟨fd, F, hb⟩ := T.d_law_told
  exact df_of F sc_law_told hb fun cdv A outer s H E hr =>
    (ss_cons (ss_asg (es_non) (gs_name (pg_name (i := 2) sc_law_told.nd rfl (by first | exact Or.inl rfl | exact Or.inr rfl))))
      (ss_cons (ss_asg (es_non) (gs_name (pg_name (i := 3) sc_law_told.nd rfl (by first | exact Or.inl rfl | exact Or.inr rfl))))
      (ss_cons (ss_try_held rfl rfl sc_law_told.nd (ie := 4) rfl rfl ⟨rfl, by decide, .inl T.gc_TidingError⟩ rfl T.xm_TidingError (fun W pn xe tk po => ss_one (ss_if (ts_cmp (c_eq hr.units) (es_var (pv 0)) (es_int) (nomark _)) (ss_one (ss_asg (es_call (Tks.up tk) (d_written_packet T) (hr.mono (by omega)) rfl T.g_written_packet T.k_written_packet (as_cons (es_var (pv 1)) (as_nil))) (gs_name (pg_name (i := 3) sc_law_told.nd rfl (by first | exact Or.inl rfl | exact Or.inr rfl))))) (ss_one (ss_asg (es_if (ts_cmp (c_eq hr.units) (es_var (pv 0)) (es_int) (nomark _)) (es_call (Tks.up tk) (d_read_packet T) (hr.mono (by omega)) rfl T.g_read_packet T.k_read_packet (as_cons (es_var (pv 1)) (as_nil))) (es_call (Tks.up tk) (d_look_packet T) (hr.mono (by omega)) rfl T.g_look_packet T.k_look_packet (as_cons (es_var (pv 1)) (as_nil)))) (gs_name (pg_name (i := 3) sc_law_told.nd rfl (by first | exact Or.inl rfl | exact Or.inr rfl))))))) (fun _ _ => pv 4) (fun _ _ => (pg_name (i := 2) sc_law_told.nd rfl (by first | exact Or.inl rfl | exact Or.inr rfl))))
      (ss_one (ss_ret (es_if (ts_isN (es_var (pv 2))) (es_var (pv 3)) (es_call (tks_of rfl rfl rfl rfl) (d_law_refusal T) (hr.mono (by omega)) rfl T.g_law_refusal T.k_law_refusal (as_cons (es_var (pv 2)) (as_nil)))))))))
theorem fn_law {fd : FuncData} (T : Txt w K mg A) (F : Fun K "law" "law" s_law A.f_law fd) : FnOk P w K mg base (cxt true P w) 10 A.f_law fd ["script"] (spD ⟨K, mg, J, w⟩ 1 m_law) :=
  fn_of_body F sc_law rfl rfl fun cdv A outer s H E hr =>
    (ss_cons (ss_asg (es_lst isM (as_nil)) (gs_name (pg_name (i := 1) sc_law.nd rfl (by first | exact Or.inl rfl | exact Or.inr rfl))))
      (ss_cons (ss_asg (es_call (tks_of rfl rfl rfl rfl) (d_law_packet T) (hr.mono (by omega)) rfl T.g_law_packet T.k_law_packet (as_cons (es_var (pv 0)) (as_cons (es_var (pv 1)) (as_nil)))) (gs_name (pg_name (i := 2) sc_law.nd rfl (by first | exact Or.inl rfl | exact Or.inr rfl))))
      (ss_cons (ss_asg (es_call (tks_of rfl rfl rfl rfl) (d_law_told T) (hr.mono (by omega)) rfl T.g_law_told T.k_law_told (as_cons (es_int) (as_cons (es_var (pv 2)) (as_nil)))) (gs_name (pg_name (i := 3) sc_law.nd rfl (by first | exact Or.inl rfl | exact Or.inr rfl))))
      (ss_cons (ss_if (ts_w (ws_or (ts_cmp (c_ne hr.units) (es_var (pv 3)) (es_call (tks_of rfl rfl rfl rfl) (d_law_bytes T) (hr.mono (by omega)) rfl T.g_law_bytes T.k_law_bytes (as_cons (es_var (pv 2)) (as_nil))) (nomark _)) (ws_or1 (ts_notN (es_call (tks_of rfl rfl rfl rfl) (d_law_told T) (hr.mono (by omega)) rfl T.g_law_told T.k_law_told (as_cons (es_int) (as_cons (es_var (pv 2)) (as_nil)))))))) (ss_one (ss_ret (es_bl))) (ss_nil))
      (ss_cons (ss_asg (es_y1 (b_list isF) rfl T.n_list (by decide +kernel) (es_var (pv 3))) (gs_name (pg_name (i := 4) sc_law.nd rfl (by first | exact Or.inl rfl | exact Or.inr rfl))))
      (ss_cons (ss_if (ts_w (ws_or (ts_cmp (c_ne hr.units) (es_call (tks_of rfl rfl rfl rfl) (d_law_told T) (hr.mono (by omega)) rfl T.g_law_told T.k_law_told (as_cons (es_int) (as_cons (es_var (pv 4)) (as_nil)))) (es_var (pv 2)) (nomark _)) (ws_or1 (ts_cmp (c_ne hr.units) (es_var (pv 4)) (es_var (pv 3)) (nomark _))))) (ss_one (ss_ret (es_bl))) (ss_nil))
      (ss_cons (ss_asg (es_call (tks_of rfl rfl rfl rfl) (d_law_bad T) (hr.mono (by omega)) rfl T.g_law_bad T.k_law_bad (as_cons (es_var (pv 0)) (as_cons (es_var (pv 1)) (as_nil)))) (gs_name (pg_name (i := 5) sc_law.nd rfl (by first | exact Or.inl rfl | exact Or.inr rfl))))
      (ss_one (ss_ret (es_cmp (c_eq hr.units) (es_lc (own := [("way", 6)]) isF rfl sc_law.nd (is_seq (es_tup (as_cons (es_int) (as_cons (es_int) (as_nil))))) (blkOk_by (own := [("way", 6)]) (N := ["script", "town", "packet", "row", "given", "bad", "way"]) (sc := defScope s_law) (by decide +kernel)) (by decide) (fun _ _ _ _ _ => gs_name (pg_name (i := 6) sc_law.nd rfl (by first | exact Or.inl rfl | exact Or.inr rfl))) (fun _ _ _ _ _ => tts_nil) (fun _ _ _ _ _ => es_call tks0 (d_law_told T) (hr.mono (by omega)) rfl T.g_law_told T.k_law_told (as_cons (es_var (pv 6)) (as_cons (es_var (pv 5)) (as_nil))))) (es_rep isF (es_lst isF (as_cons (es_tup (as_cons (es_str) (as_cons (es_str) (as_nil)))) (as_nil))) (es_int)) (nomark _)))))))))))
end
theorem all_mk {l : PySem.W.OpenLaw} {w : World} {K : PySem.W.Frag} {h : Heap} {mg : Str → Option Value} {fa : Addr} (X : K.In h) (G : h.Ns mainGlobals mg) (hfa : mg "law" = some (.ref fa))
    {C_Bytes : Addr}
    {C_TidingError : Addr}
    {C_BadName : Addr}
    {C_BadPacket : Addr}
    {C_BadBytes : Addr}
    {C_BadLine : Addr}
    {C_BadText : Addr}
    {f_is_level : Addr} {od_is_level an_is_level : Option Addr} {sl_is_level : Array (Option Value)} {oc_is_level kV_is_level dc_is_level pm_is_level cd_is_level ct_is_level : Value}
    {f_look_hearer : Addr} {od_look_hearer an_look_hearer : Option Addr} {sl_look_hearer : Array (Option Value)} {oc_look_hearer kV_look_hearer dc_look_hearer pm_look_hearer cd_look_hearer ct_look_hearer : Value}
    {f_look_grade : Addr} {od_look_grade an_look_grade : Option Addr} {sl_look_grade : Array (Option Value)} {oc_look_grade kV_look_grade dc_look_grade pm_look_grade cd_look_grade ct_look_grade : Value}
    {f_kind_number : Addr} {od_kind_number an_kind_number : Option Addr} {sl_kind_number : Array (Option Value)} {oc_kind_number kV_kind_number dc_kind_number pm_kind_number cd_kind_number ct_kind_number : Value}
    {f_must : Addr} {od_must an_must : Option Addr} {sl_must : Array (Option Value)} {oc_must kV_must dc_must pm_must cd_must ct_must : Value}
    {f_is_body : Addr} {od_is_body an_is_body : Option Addr} {sl_is_body : Array (Option Value)} {oc_is_body kV_is_body dc_is_body pm_is_body cd_is_body ct_is_body : Value}
    {f_is_id : Addr} {od_is_id an_is_id : Option Addr} {sl_is_id : Array (Option Value)} {oc_is_id kV_is_id dc_is_id pm_is_id cd_is_id ct_is_id : Value}
    {f_id_bytes : Addr} {od_id_bytes an_id_bytes : Option Addr} {sl_id_bytes : Array (Option Value)} {oc_id_bytes kV_id_bytes dc_id_bytes pm_id_bytes cd_id_bytes ct_id_bytes : Value}
    {f_length_bytes : Addr} {od_length_bytes an_length_bytes : Option Addr} {sl_length_bytes : Array (Option Value)} {oc_length_bytes kV_length_bytes dc_length_bytes pm_length_bytes cd_length_bytes ct_length_bytes : Value}
    {f_Bytes_init : Addr} {od_Bytes_init an_Bytes_init : Option Addr} {sl_Bytes_init : Array (Option Value)} {oc_Bytes_init kV_Bytes_init dc_Bytes_init pm_Bytes_init cd_Bytes_init ct_Bytes_init : Value}
    {f_Bytes_is_end : Addr} {od_Bytes_is_end an_Bytes_is_end : Option Addr} {sl_Bytes_is_end : Array (Option Value)} {oc_Bytes_is_end kV_Bytes_is_end dc_Bytes_is_end pm_Bytes_is_end cd_Bytes_is_end ct_Bytes_is_end : Value}
    {f_head_of : Addr} {od_head_of an_head_of : Option Addr} {sl_head_of : Array (Option Value)} {oc_head_of kV_head_of dc_head_of pm_head_of cd_head_of ct_head_of : Value}
    {f_law_cell : Addr} {od_law_cell an_law_cell : Option Addr} {sl_law_cell : Array (Option Value)} {oc_law_cell kV_law_cell dc_law_cell pm_law_cell cd_law_cell ct_law_cell : Value}
    {f_law_refusal : Addr} {od_law_refusal an_law_refusal : Option Addr} {sl_law_refusal : Array (Option Value)} {oc_law_refusal kV_law_refusal dc_law_refusal pm_law_refusal cd_law_refusal ct_law_refusal : Value}
    {f_law_codes : Addr} {od_law_codes an_law_codes : Option Addr} {sl_law_codes : Array (Option Value)} {oc_law_codes kV_law_codes dc_law_codes pm_law_codes cd_law_codes ct_law_codes : Value}
    {f_look_name : Addr} {od_look_name an_look_name : Option Addr} {sl_look_name : Array (Option Value)} {oc_look_name kV_look_name dc_look_name pm_look_name cd_look_name ct_look_name : Value}
    {f_look_wish : Addr} {od_look_wish an_look_wish : Option Addr} {sl_look_wish : Array (Option Value)} {oc_look_wish kV_look_wish dc_look_wish pm_look_wish cd_look_wish ct_look_wish : Value}
    {f_text_bytes : Addr} {od_text_bytes an_text_bytes : Option Addr} {sl_text_bytes : Array (Option Value)} {oc_text_bytes kV_text_bytes dc_text_bytes pm_text_bytes cd_text_bytes ct_text_bytes : Value}
    {f_Bytes_byte : Addr} {od_Bytes_byte an_Bytes_byte : Option Addr} {sl_Bytes_byte : Array (Option Value)} {oc_Bytes_byte kV_Bytes_byte dc_Bytes_byte pm_Bytes_byte cd_Bytes_byte ct_Bytes_byte : Value}
    {f_law_mix : Addr} {od_law_mix an_law_mix : Option Addr} {sl_law_mix : Array (Option Value)} {oc_law_mix kV_law_mix dc_law_mix pm_law_mix cd_law_mix ct_law_mix : Value}
    {f_law_counted : Addr} {od_law_counted an_law_counted : Option Addr} {sl_law_counted : Array (Option Value)} {oc_law_counted kV_law_counted dc_law_counted pm_law_counted cd_law_counted ct_law_counted : Value}
    {f_look_tiding : Addr} {od_look_tiding an_look_tiding : Option Addr} {sl_look_tiding : Array (Option Value)} {oc_look_tiding kV_look_tiding dc_look_tiding pm_look_tiding cd_look_tiding ct_look_tiding : Value}
    {f_look_some : Addr} {od_look_some an_look_some : Option Addr} {sl_look_some : Array (Option Value)} {oc_look_some kV_look_some dc_look_some pm_look_some cd_look_some ct_look_some : Value}
    {f_will_bytes : Addr} {od_will_bytes an_will_bytes : Option Addr} {sl_will_bytes : Array (Option Value)} {oc_will_bytes kV_will_bytes dc_will_bytes pm_will_bytes cd_will_bytes ct_will_bytes : Value}
    {f_Bytes_number : Addr} {od_Bytes_number an_Bytes_number : Option Addr} {sl_Bytes_number : Array (Option Value)} {oc_Bytes_number kV_Bytes_number dc_Bytes_number pm_Bytes_number cd_Bytes_number ct_Bytes_number : Value}
    {f_Bytes_text : Addr} {od_Bytes_text an_Bytes_text : Option Addr} {sl_Bytes_text : Array (Option Value)} {oc_Bytes_text kV_Bytes_text dc_Bytes_text pm_Bytes_text cd_Bytes_text ct_Bytes_text : Value}
    {f_law_draw : Addr} {od_law_draw an_law_draw : Option Addr} {sl_law_draw : Array (Option Value)} {oc_law_draw kV_law_draw dc_law_draw pm_law_draw cd_law_draw ct_law_draw : Value}
    {f_law_rest : Addr} {od_law_rest an_law_rest : Option Addr} {sl_law_rest : Array (Option Value)} {oc_law_rest kV_law_rest dc_law_rest pm_law_rest cd_law_rest ct_law_rest : Value}
    {f_look_say : Addr} {od_look_say an_look_say : Option Addr} {sl_look_say : Array (Option Value)} {oc_look_say kV_look_say dc_look_say pm_look_say cd_look_say ct_look_say : Value}
    {f_rest_bytes : Addr} {od_rest_bytes an_rest_bytes : Option Addr} {sl_rest_bytes : Array (Option Value)} {oc_rest_bytes kV_rest_bytes dc_rest_bytes pm_rest_bytes cd_rest_bytes ct_rest_bytes : Value}
    {f_Bytes_counted : Addr} {od_Bytes_counted an_Bytes_counted : Option Addr} {sl_Bytes_counted : Array (Option Value)} {oc_Bytes_counted kV_Bytes_counted dc_Bytes_counted pm_Bytes_counted cd_Bytes_counted ct_Bytes_counted : Value}
    {f_law_pick : Addr} {od_law_pick an_law_pick : Option Addr} {sl_law_pick : Array (Option Value)} {oc_law_pick kV_law_pick dc_law_pick pm_law_pick cd_law_pick ct_law_pick : Value}
    {f_law_bytes : Addr} {od_law_bytes an_law_bytes : Option Addr} {sl_law_bytes : Array (Option Value)} {oc_law_bytes kV_law_bytes dc_law_bytes pm_law_bytes cd_law_bytes ct_law_bytes : Value}
    {f_look_whole : Addr} {od_look_whole an_look_whole : Option Addr} {sl_look_whole : Array (Option Value)} {oc_look_whole kV_look_whole dc_look_whole pm_look_whole cd_look_whole ct_look_whole : Value}
    {f_read_connect : Addr} {od_read_connect an_read_connect : Option Addr} {sl_read_connect : Array (Option Value)} {oc_read_connect kV_read_connect dc_read_connect pm_read_connect cd_read_connect ct_read_connect : Value}
    {f_read_say : Addr} {od_read_say an_read_say : Option Addr} {sl_read_say : Array (Option Value)} {oc_read_say kV_read_say dc_read_say pm_read_say cd_read_say ct_read_say : Value}
    {f_read_some : Addr} {od_read_some an_read_some : Option Addr} {sl_read_some : Array (Option Value)} {oc_read_some kV_read_some dc_read_some pm_read_some cd_read_some ct_read_some : Value}
    {f_law_signs : Addr} {od_law_signs an_law_signs : Option Addr} {sl_law_signs : Array (Option Value)} {oc_law_signs kV_law_signs dc_law_signs pm_law_signs cd_law_signs ct_law_signs : Value}
    {f_law_hearer : Addr} {od_law_hearer an_law_hearer : Option Addr} {sl_law_hearer : Array (Option Value)} {oc_law_hearer kV_law_hearer dc_law_hearer pm_law_hearer cd_law_hearer ct_law_hearer : Value}
    {f_law_id : Addr} {od_law_id an_law_id : Option Addr} {sl_law_id : Array (Option Value)} {oc_law_id kV_law_id dc_law_id pm_law_id cd_law_id ct_law_id : Value}
    {f_law_bad : Addr} {od_law_bad an_law_bad : Option Addr} {sl_law_bad : Array (Option Value)} {oc_law_bad kV_law_bad dc_law_bad pm_law_bad cd_law_bad ct_law_bad : Value}
    {f_look_packet : Addr} {od_look_packet an_look_packet : Option Addr} {sl_look_packet : Array (Option Value)} {oc_look_packet kV_look_packet dc_look_packet pm_look_packet cd_look_packet ct_look_packet : Value}
    {f_read_rest : Addr} {od_read_rest an_read_rest : Option Addr} {sl_read_rest : Array (Option Value)} {oc_read_rest kV_read_rest dc_read_rest pm_read_rest cd_read_rest ct_read_rest : Value}
    {f_law_level : Addr} {od_law_level an_law_level : Option Addr} {sl_law_level : Array (Option Value)} {oc_law_level kV_law_level dc_law_level pm_law_level cd_law_level ct_law_level : Value}
    {f_law_body : Addr} {od_law_body an_law_body : Option Addr} {sl_law_body : Array (Option Value)} {oc_law_body kV_law_body dc_law_body pm_law_body cd_law_body ct_law_body : Value}
    {f_written_packet : Addr} {od_written_packet an_written_packet : Option Addr} {sl_written_packet : Array (Option Value)} {oc_written_packet kV_written_packet dc_written_packet pm_written_packet cd_written_packet ct_written_packet : Value}
    {f_law_name : Addr} {od_law_name an_law_name : Option Addr} {sl_law_name : Array (Option Value)} {oc_law_name kV_law_name dc_law_name pm_law_name cd_law_name ct_law_name : Value}
    {f_law_wish : Addr} {od_law_wish an_law_wish : Option Addr} {sl_law_wish : Array (Option Value)} {oc_law_wish kV_law_wish dc_law_wish pm_law_wish cd_law_wish ct_law_wish : Value}
    {f_read_packet : Addr} {od_read_packet an_read_packet : Option Addr} {sl_read_packet : Array (Option Value)} {oc_read_packet kV_read_packet dc_read_packet pm_read_packet cd_read_packet ct_read_packet : Value}
    {f_law_tiding : Addr} {od_law_tiding an_law_tiding : Option Addr} {sl_law_tiding : Array (Option Value)} {oc_law_tiding kV_law_tiding dc_law_tiding pm_law_tiding cd_law_tiding ct_law_tiding : Value}
    {f_law_packet : Addr} {od_law_packet an_law_packet : Option Addr} {sl_law_packet : Array (Option Value)} {oc_law_packet kV_law_packet dc_law_packet pm_law_packet cd_law_packet ct_law_packet : Value}
    {f_law_told : Addr} {od_law_told an_law_told : Option Addr} {sl_law_told : Array (Option Value)} {oc_law_told kV_law_told dc_law_told pm_law_told cd_law_told ct_law_told : Value}
    {f_law : Addr} {od_law an_law : Option Addr} {sl_law : Array (Option Value)} {oc_law kV_law dc_law pm_law cd_law ct_law : Value}
    {t_MOST_LEVELS : Tok}
    {t_MOST_SIGNS : Tok}
    {t_SMALL : Tok}
    {t_MOST_BODY : Tok}
    {t_MOST_ID : Tok}
    {t_MOST_WISHES : Tok}
    {t_MOST_REST : Tok}
    {t_REFUSED : Tok}
    {t_SIGNS : Tok}
    {L_KINDS : Addr} {its_KINDS : Array Value} {n_KINDS : Nat}
    {L_MORE_KINDS : Addr} {its_MORE_KINDS : Array Value} {n_MORE_KINDS : Nat}
    {L_LENGTHS : Addr} {es_LENGTHS : Array DictEntry} {n_LENGTHS : Nat}
    {L_MORE_LENGTHS : Addr} {es_MORE_LENGTHS : Array DictEntry} {n_MORE_LENGTHS : Nat}
    (aC_Bytes : PySem.W.nsIn K mainGlobals "Bytes" = some (some (.ref C_Bytes)))
    (kC_Bytes : PySem.W.keepIn K (.ref C_Bytes) = true)
    (aC_TidingError : PySem.W.nsIn K mainGlobals "TidingError" = some (some (.ref C_TidingError)))
    (kC_TidingError : PySem.W.keepIn K (.ref C_TidingError) = true)
    (aC_BadName : PySem.W.nsIn K mainGlobals "BadName" = some (some (.ref C_BadName)))
    (kC_BadName : PySem.W.keepIn K (.ref C_BadName) = true)
    (aC_BadPacket : PySem.W.nsIn K mainGlobals "BadPacket" = some (some (.ref C_BadPacket)))
    (kC_BadPacket : PySem.W.keepIn K (.ref C_BadPacket) = true)
    (aC_BadBytes : PySem.W.nsIn K mainGlobals "BadBytes" = some (some (.ref C_BadBytes)))
    (kC_BadBytes : PySem.W.keepIn K (.ref C_BadBytes) = true)
    (aC_BadLine : PySem.W.nsIn K mainGlobals "BadLine" = some (some (.ref C_BadLine)))
    (kC_BadLine : PySem.W.keepIn K (.ref C_BadLine) = true)
    (aC_BadText : PySem.W.nsIn K mainGlobals "BadText" = some (some (.ref C_BadText)))
    (kC_BadText : PySem.W.keepIn K (.ref C_BadText) = true)
    (a_is_level : PySem.W.nsIn K mainGlobals "is_level" = some (some (.ref f_is_level)))
    (l_is_level : K.lookup f_is_level = some ⟨oc_is_level, od_is_level, .func (PySem.W.fnOf "is_level" "is_level" (defArgs s_is_level) (defBody s_is_level) (defScope s_is_level) .none kV_is_level dc_is_level pm_is_level an_is_level cd_is_level ct_is_level), sl_is_level⟩)
    (c_is_level : PySem.W.codeIn K cd_is_level "is_level" = true)
    (k_is_level : PySem.W.keepIn K (.ref f_is_level) = true)
    (a_look_hearer : PySem.W.nsIn K mainGlobals "look_hearer" = some (some (.ref f_look_hearer)))
    (l_look_hearer : K.lookup f_look_hearer = some ⟨oc_look_hearer, od_look_hearer, .func (PySem.W.fnOf "look_hearer" "look_hearer" (defArgs s_look_hearer) (defBody s_look_hearer) (defScope s_look_hearer) .none kV_look_hearer dc_look_hearer pm_look_hearer an_look_hearer cd_look_hearer ct_look_hearer), sl_look_hearer⟩)
    (c_look_hearer : PySem.W.codeIn K cd_look_hearer "look_hearer" = true)
    (k_look_hearer : PySem.W.keepIn K (.ref f_look_hearer) = true)
    (a_look_grade : PySem.W.nsIn K mainGlobals "look_grade" = some (some (.ref f_look_grade)))
    (l_look_grade : K.lookup f_look_grade = some ⟨oc_look_grade, od_look_grade, .func (PySem.W.fnOf "look_grade" "look_grade" (defArgs s_look_grade) (defBody s_look_grade) (defScope s_look_grade) .none kV_look_grade dc_look_grade pm_look_grade an_look_grade cd_look_grade ct_look_grade), sl_look_grade⟩)
    (c_look_grade : PySem.W.codeIn K cd_look_grade "look_grade" = true)
    (k_look_grade : PySem.W.keepIn K (.ref f_look_grade) = true)
    (a_kind_number : PySem.W.nsIn K mainGlobals "kind_number" = some (some (.ref f_kind_number)))
    (l_kind_number : K.lookup f_kind_number = some ⟨oc_kind_number, od_kind_number, .func (PySem.W.fnOf "kind_number" "kind_number" (defArgs s_kind_number) (defBody s_kind_number) (defScope s_kind_number) .none kV_kind_number dc_kind_number pm_kind_number an_kind_number cd_kind_number ct_kind_number), sl_kind_number⟩)
    (c_kind_number : PySem.W.codeIn K cd_kind_number "kind_number" = true)
    (k_kind_number : PySem.W.keepIn K (.ref f_kind_number) = true)
    (a_must : PySem.W.nsIn K mainGlobals "must" = some (some (.ref f_must)))
    (l_must : K.lookup f_must = some ⟨oc_must, od_must, .func (PySem.W.fnOf "must" "must" (defArgs s_must) (defBody s_must) (defScope s_must) .none kV_must dc_must pm_must an_must cd_must ct_must), sl_must⟩)
    (c_must : PySem.W.codeIn K cd_must "must" = true)
    (k_must : PySem.W.keepIn K (.ref f_must) = true)
    (a_is_body : PySem.W.nsIn K mainGlobals "is_body" = some (some (.ref f_is_body)))
    (l_is_body : K.lookup f_is_body = some ⟨oc_is_body, od_is_body, .func (PySem.W.fnOf "is_body" "is_body" (defArgs s_is_body) (defBody s_is_body) (defScope s_is_body) .none kV_is_body dc_is_body pm_is_body an_is_body cd_is_body ct_is_body), sl_is_body⟩)
    (c_is_body : PySem.W.codeIn K cd_is_body "is_body" = true)
    (k_is_body : PySem.W.keepIn K (.ref f_is_body) = true)
    (a_is_id : PySem.W.nsIn K mainGlobals "is_id" = some (some (.ref f_is_id)))
    (l_is_id : K.lookup f_is_id = some ⟨oc_is_id, od_is_id, .func (PySem.W.fnOf "is_id" "is_id" (defArgs s_is_id) (defBody s_is_id) (defScope s_is_id) .none kV_is_id dc_is_id pm_is_id an_is_id cd_is_id ct_is_id), sl_is_id⟩)
    (c_is_id : PySem.W.codeIn K cd_is_id "is_id" = true)
    (k_is_id : PySem.W.keepIn K (.ref f_is_id) = true)
    (a_id_bytes : PySem.W.nsIn K mainGlobals "id_bytes" = some (some (.ref f_id_bytes)))
    (l_id_bytes : K.lookup f_id_bytes = some ⟨oc_id_bytes, od_id_bytes, .func (PySem.W.fnOf "id_bytes" "id_bytes" (defArgs s_id_bytes) (defBody s_id_bytes) (defScope s_id_bytes) .none kV_id_bytes dc_id_bytes pm_id_bytes an_id_bytes cd_id_bytes ct_id_bytes), sl_id_bytes⟩)
    (c_id_bytes : PySem.W.codeIn K cd_id_bytes "id_bytes" = true)
    (k_id_bytes : PySem.W.keepIn K (.ref f_id_bytes) = true)
    (a_length_bytes : PySem.W.nsIn K mainGlobals "length_bytes" = some (some (.ref f_length_bytes)))
    (l_length_bytes : K.lookup f_length_bytes = some ⟨oc_length_bytes, od_length_bytes, .func (PySem.W.fnOf "length_bytes" "length_bytes" (defArgs s_length_bytes) (defBody s_length_bytes) (defScope s_length_bytes) .none kV_length_bytes dc_length_bytes pm_length_bytes an_length_bytes cd_length_bytes ct_length_bytes), sl_length_bytes⟩)
    (c_length_bytes : PySem.W.codeIn K cd_length_bytes "length_bytes" = true)
    (k_length_bytes : PySem.W.keepIn K (.ref f_length_bytes) = true)
    (a_Bytes_init : PySem.W.findIn K (.ref C_Bytes) "__init__" = some (some (.ref f_Bytes_init)))
    (i_Bytes_init : PySem.W.isFn K (.ref f_Bytes_init) = true)
    (l_Bytes_init : K.lookup f_Bytes_init = some ⟨oc_Bytes_init, od_Bytes_init, .func (PySem.W.fnOf "__init__" "Bytes.__init__" (defArgs s_Bytes_init) (defBody s_Bytes_init) (defScope s_Bytes_init) .none kV_Bytes_init dc_Bytes_init pm_Bytes_init an_Bytes_init cd_Bytes_init ct_Bytes_init), sl_Bytes_init⟩)
    (c_Bytes_init : PySem.W.codeIn K cd_Bytes_init "Bytes.__init__" = true)
    (k_Bytes_init : PySem.W.keepIn K (.ref f_Bytes_init) = true)
    (a_Bytes_is_end : PySem.W.findIn K (.ref C_Bytes) "is_end" = some (some (.ref f_Bytes_is_end)))
    (i_Bytes_is_end : PySem.W.isFn K (.ref f_Bytes_is_end) = true)
    (l_Bytes_is_end : K.lookup f_Bytes_is_end = some ⟨oc_Bytes_is_end, od_Bytes_is_end, .func (PySem.W.fnOf "is_end" "Bytes.is_end" (defArgs s_Bytes_is_end) (defBody s_Bytes_is_end) (defScope s_Bytes_is_end) .none kV_Bytes_is_end dc_Bytes_is_end pm_Bytes_is_end an_Bytes_is_end cd_Bytes_is_end ct_Bytes_is_end), sl_Bytes_is_end⟩)
    (c_Bytes_is_end : PySem.W.codeIn K cd_Bytes_is_end "Bytes.is_end" = true)
    (k_Bytes_is_end : PySem.W.keepIn K (.ref f_Bytes_is_end) = true)
    (a_head_of : PySem.W.nsIn K mainGlobals "head_of" = some (some (.ref f_head_of)))
    (l_head_of : K.lookup f_head_of = some ⟨oc_head_of, od_head_of, .func (PySem.W.fnOf "head_of" "head_of" (defArgs s_head_of) (defBody s_head_of) (defScope s_head_of) .none kV_head_of dc_head_of pm_head_of an_head_of cd_head_of ct_head_of), sl_head_of⟩)
    (c_head_of : PySem.W.codeIn K cd_head_of "head_of" = true)
    (k_head_of : PySem.W.keepIn K (.ref f_head_of) = true)
    (a_law_cell : PySem.W.nsIn K mainGlobals "_law_cell" = some (some (.ref f_law_cell)))
    (l_law_cell : K.lookup f_law_cell = some ⟨oc_law_cell, od_law_cell, .func (PySem.W.fnOf "_law_cell" "_law_cell" (defArgs s_law_cell) (defBody s_law_cell) (defScope s_law_cell) .none kV_law_cell dc_law_cell pm_law_cell an_law_cell cd_law_cell ct_law_cell), sl_law_cell⟩)
    (c_law_cell : PySem.W.codeIn K cd_law_cell "_law_cell" = true)
    (k_law_cell : PySem.W.keepIn K (.ref f_law_cell) = true)
    (a_law_refusal : PySem.W.nsIn K mainGlobals "_law_refusal" = some (some (.ref f_law_refusal)))
    (l_law_refusal : K.lookup f_law_refusal = some ⟨oc_law_refusal, od_law_refusal, .func (PySem.W.fnOf "_law_refusal" "_law_refusal" (defArgs s_law_refusal) (defBody s_law_refusal) (defScope s_law_refusal) .none kV_law_refusal dc_law_refusal pm_law_refusal an_law_refusal cd_law_refusal ct_law_refusal), sl_law_refusal⟩)
    (c_law_refusal : PySem.W.codeIn K cd_law_refusal "_law_refusal" = true)
    (k_law_refusal : PySem.W.keepIn K (.ref f_law_refusal) = true)
    (a_law_codes : PySem.W.nsIn K mainGlobals "_law_codes" = some (some (.ref f_law_codes)))
    (l_law_codes : K.lookup f_law_codes = some ⟨oc_law_codes, od_law_codes, .func (PySem.W.fnOf "_law_codes" "_law_codes" (defArgs s_law_codes) (defBody s_law_codes) (defScope s_law_codes) .none kV_law_codes dc_law_codes pm_law_codes an_law_codes cd_law_codes ct_law_codes), sl_law_codes⟩)
    (c_law_codes : PySem.W.codeIn K cd_law_codes "_law_codes" = true)
    (k_law_codes : PySem.W.keepIn K (.ref f_law_codes) = true)
    (a_look_name : PySem.W.nsIn K mainGlobals "look_name" = some (some (.ref f_look_name)))
    (l_look_name : K.lookup f_look_name = some ⟨oc_look_name, od_look_name, .func (PySem.W.fnOf "look_name" "look_name" (defArgs s_look_name) (defBody s_look_name) (defScope s_look_name) .none kV_look_name dc_look_name pm_look_name an_look_name cd_look_name ct_look_name), sl_look_name⟩)
    (c_look_name : PySem.W.codeIn K cd_look_name "look_name" = true)
    (k_look_name : PySem.W.keepIn K (.ref f_look_name) = true)
    (a_look_wish : PySem.W.nsIn K mainGlobals "look_wish" = some (some (.ref f_look_wish)))
    (l_look_wish : K.lookup f_look_wish = some ⟨oc_look_wish, od_look_wish, .func (PySem.W.fnOf "look_wish" "look_wish" (defArgs s_look_wish) (defBody s_look_wish) (defScope s_look_wish) .none kV_look_wish dc_look_wish pm_look_wish an_look_wish cd_look_wish ct_look_wish), sl_look_wish⟩)
    (c_look_wish : PySem.W.codeIn K cd_look_wish "look_wish" = true)
    (k_look_wish : PySem.W.keepIn K (.ref f_look_wish) = true)
    (a_text_bytes : PySem.W.nsIn K mainGlobals "text_bytes" = some (some (.ref f_text_bytes)))
    (l_text_bytes : K.lookup f_text_bytes = some ⟨oc_text_bytes, od_text_bytes, .func (PySem.W.fnOf "text_bytes" "text_bytes" (defArgs s_text_bytes) (defBody s_text_bytes) (defScope s_text_bytes) .none kV_text_bytes dc_text_bytes pm_text_bytes an_text_bytes cd_text_bytes ct_text_bytes), sl_text_bytes⟩)
    (c_text_bytes : PySem.W.codeIn K cd_text_bytes "text_bytes" = true)
    (k_text_bytes : PySem.W.keepIn K (.ref f_text_bytes) = true)
    (a_Bytes_byte : PySem.W.findIn K (.ref C_Bytes) "byte" = some (some (.ref f_Bytes_byte)))
    (i_Bytes_byte : PySem.W.isFn K (.ref f_Bytes_byte) = true)
    (l_Bytes_byte : K.lookup f_Bytes_byte = some ⟨oc_Bytes_byte, od_Bytes_byte, .func (PySem.W.fnOf "byte" "Bytes.byte" (defArgs s_Bytes_byte) (defBody s_Bytes_byte) (defScope s_Bytes_byte) .none kV_Bytes_byte dc_Bytes_byte pm_Bytes_byte an_Bytes_byte cd_Bytes_byte ct_Bytes_byte), sl_Bytes_byte⟩)
    (c_Bytes_byte : PySem.W.codeIn K cd_Bytes_byte "Bytes.byte" = true)
    (k_Bytes_byte : PySem.W.keepIn K (.ref f_Bytes_byte) = true)
    (a_law_mix : PySem.W.nsIn K mainGlobals "_law_mix" = some (some (.ref f_law_mix)))
    (l_law_mix : K.lookup f_law_mix = some ⟨oc_law_mix, od_law_mix, .func (PySem.W.fnOf "_law_mix" "_law_mix" (defArgs s_law_mix) (defBody s_law_mix) (defScope s_law_mix) .none kV_law_mix dc_law_mix pm_law_mix an_law_mix cd_law_mix ct_law_mix), sl_law_mix⟩)
    (c_law_mix : PySem.W.codeIn K cd_law_mix "_law_mix" = true)
    (k_law_mix : PySem.W.keepIn K (.ref f_law_mix) = true)
    (a_law_counted : PySem.W.nsIn K mainGlobals "_law_counted" = some (some (.ref f_law_counted)))
    (l_law_counted : K.lookup f_law_counted = some ⟨oc_law_counted, od_law_counted, .func (PySem.W.fnOf "_law_counted" "_law_counted" (defArgs s_law_counted) (defBody s_law_counted) (defScope s_law_counted) .none kV_law_counted dc_law_counted pm_law_counted an_law_counted cd_law_counted ct_law_counted), sl_law_counted⟩)
    (c_law_counted : PySem.W.codeIn K cd_law_counted "_law_counted" = true)
    (k_law_counted : PySem.W.keepIn K (.ref f_law_counted) = true)
    (a_look_tiding : PySem.W.nsIn K mainGlobals "look_tiding" = some (some (.ref f_look_tiding)))
    (l_look_tiding : K.lookup f_look_tiding = some ⟨oc_look_tiding, od_look_tiding, .func (PySem.W.fnOf "look_tiding" "look_tiding" (defArgs s_look_tiding) (defBody s_look_tiding) (defScope s_look_tiding) .none kV_look_tiding dc_look_tiding pm_look_tiding an_look_tiding cd_look_tiding ct_look_tiding), sl_look_tiding⟩)
    (c_look_tiding : PySem.W.codeIn K cd_look_tiding "look_tiding" = true)
    (k_look_tiding : PySem.W.keepIn K (.ref f_look_tiding) = true)
    (a_look_some : PySem.W.nsIn K mainGlobals "look_some" = some (some (.ref f_look_some)))
    (l_look_some : K.lookup f_look_some = some ⟨oc_look_some, od_look_some, .func (PySem.W.fnOf "look_some" "look_some" (defArgs s_look_some) (defBody s_look_some) (defScope s_look_some) .none kV_look_some dc_look_some pm_look_some an_look_some cd_look_some ct_look_some), sl_look_some⟩)
    (c_look_some : PySem.W.codeIn K cd_look_some "look_some" = true)
    (k_look_some : PySem.W.keepIn K (.ref f_look_some) = true)
    (a_will_bytes : PySem.W.nsIn K mainGlobals "will_bytes" = some (some (.ref f_will_bytes)))
    (l_will_bytes : K.lookup f_will_bytes = some ⟨oc_will_bytes, od_will_bytes, .func (PySem.W.fnOf "will_bytes" "will_bytes" (defArgs s_will_bytes) (defBody s_will_bytes) (defScope s_will_bytes) .none kV_will_bytes dc_will_bytes pm_will_bytes an_will_bytes cd_will_bytes ct_will_bytes), sl_will_bytes⟩)
    (c_will_bytes : PySem.W.codeIn K cd_will_bytes "will_bytes" = true)
    (k_will_bytes : PySem.W.keepIn K (.ref f_will_bytes) = true)
    (a_Bytes_number : PySem.W.findIn K (.ref C_Bytes) "number" = some (some (.ref f_Bytes_number)))
    (i_Bytes_number : PySem.W.isFn K (.ref f_Bytes_number) = true)
    (l_Bytes_number : K.lookup f_Bytes_number = some ⟨oc_Bytes_number, od_Bytes_number, .func (PySem.W.fnOf "number" "Bytes.number" (defArgs s_Bytes_number) (defBody s_Bytes_number) (defScope s_Bytes_number) .none kV_Bytes_number dc_Bytes_number pm_Bytes_number an_Bytes_number cd_Bytes_number ct_Bytes_number), sl_Bytes_number⟩)
    (c_Bytes_number : PySem.W.codeIn K cd_Bytes_number "Bytes.number" = true)
    (k_Bytes_number : PySem.W.keepIn K (.ref f_Bytes_number) = true)
    (a_Bytes_text : PySem.W.findIn K (.ref C_Bytes) "text" = some (some (.ref f_Bytes_text)))
    (i_Bytes_text : PySem.W.isFn K (.ref f_Bytes_text) = true)
    (l_Bytes_text : K.lookup f_Bytes_text = some ⟨oc_Bytes_text, od_Bytes_text, .func (PySem.W.fnOf "text" "Bytes.text" (defArgs s_Bytes_text) (defBody s_Bytes_text) (defScope s_Bytes_text) .none kV_Bytes_text dc_Bytes_text pm_Bytes_text an_Bytes_text cd_Bytes_text ct_Bytes_text), sl_Bytes_text⟩)
    (c_Bytes_text : PySem.W.codeIn K cd_Bytes_text "Bytes.text" = true)
    (k_Bytes_text : PySem.W.keepIn K (.ref f_Bytes_text) = true)
    (a_law_draw : PySem.W.nsIn K mainGlobals "_law_draw" = some (some (.ref f_law_draw)))
    (l_law_draw : K.lookup f_law_draw = some ⟨oc_law_draw, od_law_draw, .func (PySem.W.fnOf "_law_draw" "_law_draw" (defArgs s_law_draw) (defBody s_law_draw) (defScope s_law_draw) .none kV_law_draw dc_law_draw pm_law_draw an_law_draw cd_law_draw ct_law_draw), sl_law_draw⟩)
    (c_law_draw : PySem.W.codeIn K cd_law_draw "_law_draw" = true)
    (k_law_draw : PySem.W.keepIn K (.ref f_law_draw) = true)
    (a_law_rest : PySem.W.nsIn K mainGlobals "_law_rest" = some (some (.ref f_law_rest)))
    (l_law_rest : K.lookup f_law_rest = some ⟨oc_law_rest, od_law_rest, .func (PySem.W.fnOf "_law_rest" "_law_rest" (defArgs s_law_rest) (defBody s_law_rest) (defScope s_law_rest) .none kV_law_rest dc_law_rest pm_law_rest an_law_rest cd_law_rest ct_law_rest), sl_law_rest⟩)
    (c_law_rest : PySem.W.codeIn K cd_law_rest "_law_rest" = true)
    (k_law_rest : PySem.W.keepIn K (.ref f_law_rest) = true)
    (a_look_say : PySem.W.nsIn K mainGlobals "look_say" = some (some (.ref f_look_say)))
    (l_look_say : K.lookup f_look_say = some ⟨oc_look_say, od_look_say, .func (PySem.W.fnOf "look_say" "look_say" (defArgs s_look_say) (defBody s_look_say) (defScope s_look_say) .none kV_look_say dc_look_say pm_look_say an_look_say cd_look_say ct_look_say), sl_look_say⟩)
    (c_look_say : PySem.W.codeIn K cd_look_say "look_say" = true)
    (k_look_say : PySem.W.keepIn K (.ref f_look_say) = true)
    (a_rest_bytes : PySem.W.nsIn K mainGlobals "rest_bytes" = some (some (.ref f_rest_bytes)))
    (l_rest_bytes : K.lookup f_rest_bytes = some ⟨oc_rest_bytes, od_rest_bytes, .func (PySem.W.fnOf "rest_bytes" "rest_bytes" (defArgs s_rest_bytes) (defBody s_rest_bytes) (defScope s_rest_bytes) .none kV_rest_bytes dc_rest_bytes pm_rest_bytes an_rest_bytes cd_rest_bytes ct_rest_bytes), sl_rest_bytes⟩)
    (c_rest_bytes : PySem.W.codeIn K cd_rest_bytes "rest_bytes" = true)
    (k_rest_bytes : PySem.W.keepIn K (.ref f_rest_bytes) = true)
    (a_Bytes_counted : PySem.W.findIn K (.ref C_Bytes) "counted" = some (some (.ref f_Bytes_counted)))
    (i_Bytes_counted : PySem.W.isFn K (.ref f_Bytes_counted) = true)
    (l_Bytes_counted : K.lookup f_Bytes_counted = some ⟨oc_Bytes_counted, od_Bytes_counted, .func (PySem.W.fnOf "counted" "Bytes.counted" (defArgs s_Bytes_counted) (defBody s_Bytes_counted) (defScope s_Bytes_counted) .none kV_Bytes_counted dc_Bytes_counted pm_Bytes_counted an_Bytes_counted cd_Bytes_counted ct_Bytes_counted), sl_Bytes_counted⟩)
    (c_Bytes_counted : PySem.W.codeIn K cd_Bytes_counted "Bytes.counted" = true)
    (k_Bytes_counted : PySem.W.keepIn K (.ref f_Bytes_counted) = true)
    (a_law_pick : PySem.W.nsIn K mainGlobals "_law_pick" = some (some (.ref f_law_pick)))
    (l_law_pick : K.lookup f_law_pick = some ⟨oc_law_pick, od_law_pick, .func (PySem.W.fnOf "_law_pick" "_law_pick" (defArgs s_law_pick) (defBody s_law_pick) (defScope s_law_pick) .none kV_law_pick dc_law_pick pm_law_pick an_law_pick cd_law_pick ct_law_pick), sl_law_pick⟩)
    (c_law_pick : PySem.W.codeIn K cd_law_pick "_law_pick" = true)
    (k_law_pick : PySem.W.keepIn K (.ref f_law_pick) = true)
    (a_law_bytes : PySem.W.nsIn K mainGlobals "_law_bytes" = some (some (.ref f_law_bytes)))
    (l_law_bytes : K.lookup f_law_bytes = some ⟨oc_law_bytes, od_law_bytes, .func (PySem.W.fnOf "_law_bytes" "_law_bytes" (defArgs s_law_bytes) (defBody s_law_bytes) (defScope s_law_bytes) .none kV_law_bytes dc_law_bytes pm_law_bytes an_law_bytes cd_law_bytes ct_law_bytes), sl_law_bytes⟩)
    (c_law_bytes : PySem.W.codeIn K cd_law_bytes "_law_bytes" = true)
    (k_law_bytes : PySem.W.keepIn K (.ref f_law_bytes) = true)
    (a_look_whole : PySem.W.nsIn K mainGlobals "look_whole" = some (some (.ref f_look_whole)))
    (l_look_whole : K.lookup f_look_whole = some ⟨oc_look_whole, od_look_whole, .func (PySem.W.fnOf "look_whole" "look_whole" (defArgs s_look_whole) (defBody s_look_whole) (defScope s_look_whole) .none kV_look_whole dc_look_whole pm_look_whole an_look_whole cd_look_whole ct_look_whole), sl_look_whole⟩)
    (c_look_whole : PySem.W.codeIn K cd_look_whole "look_whole" = true)
    (k_look_whole : PySem.W.keepIn K (.ref f_look_whole) = true)
    (a_read_connect : PySem.W.nsIn K mainGlobals "read_connect" = some (some (.ref f_read_connect)))
    (l_read_connect : K.lookup f_read_connect = some ⟨oc_read_connect, od_read_connect, .func (PySem.W.fnOf "read_connect" "read_connect" (defArgs s_read_connect) (defBody s_read_connect) (defScope s_read_connect) .none kV_read_connect dc_read_connect pm_read_connect an_read_connect cd_read_connect ct_read_connect), sl_read_connect⟩)
    (c_read_connect : PySem.W.codeIn K cd_read_connect "read_connect" = true)
    (k_read_connect : PySem.W.keepIn K (.ref f_read_connect) = true)
    (a_read_say : PySem.W.nsIn K mainGlobals "read_say" = some (some (.ref f_read_say)))
    (l_read_say : K.lookup f_read_say = some ⟨oc_read_say, od_read_say, .func (PySem.W.fnOf "read_say" "read_say" (defArgs s_read_say) (defBody s_read_say) (defScope s_read_say) .none kV_read_say dc_read_say pm_read_say an_read_say cd_read_say ct_read_say), sl_read_say⟩)
    (c_read_say : PySem.W.codeIn K cd_read_say "read_say" = true)
    (k_read_say : PySem.W.keepIn K (.ref f_read_say) = true)
    (a_read_some : PySem.W.nsIn K mainGlobals "read_some" = some (some (.ref f_read_some)))
    (l_read_some : K.lookup f_read_some = some ⟨oc_read_some, od_read_some, .func (PySem.W.fnOf "read_some" "read_some" (defArgs s_read_some) (defBody s_read_some) (defScope s_read_some) .none kV_read_some dc_read_some pm_read_some an_read_some cd_read_some ct_read_some), sl_read_some⟩)
    (c_read_some : PySem.W.codeIn K cd_read_some "read_some" = true)
    (k_read_some : PySem.W.keepIn K (.ref f_read_some) = true)
    (a_law_signs : PySem.W.nsIn K mainGlobals "_law_signs" = some (some (.ref f_law_signs)))
    (l_law_signs : K.lookup f_law_signs = some ⟨oc_law_signs, od_law_signs, .func (PySem.W.fnOf "_law_signs" "_law_signs" (defArgs s_law_signs) (defBody s_law_signs) (defScope s_law_signs) .none kV_law_signs dc_law_signs pm_law_signs an_law_signs cd_law_signs ct_law_signs), sl_law_signs⟩)
    (c_law_signs : PySem.W.codeIn K cd_law_signs "_law_signs" = true)
    (k_law_signs : PySem.W.keepIn K (.ref f_law_signs) = true)
    (a_law_hearer : PySem.W.nsIn K mainGlobals "_law_hearer" = some (some (.ref f_law_hearer)))
    (l_law_hearer : K.lookup f_law_hearer = some ⟨oc_law_hearer, od_law_hearer, .func (PySem.W.fnOf "_law_hearer" "_law_hearer" (defArgs s_law_hearer) (defBody s_law_hearer) (defScope s_law_hearer) .none kV_law_hearer dc_law_hearer pm_law_hearer an_law_hearer cd_law_hearer ct_law_hearer), sl_law_hearer⟩)
    (c_law_hearer : PySem.W.codeIn K cd_law_hearer "_law_hearer" = true)
    (k_law_hearer : PySem.W.keepIn K (.ref f_law_hearer) = true)
    (a_law_id : PySem.W.nsIn K mainGlobals "_law_id" = some (some (.ref f_law_id)))
    (l_law_id : K.lookup f_law_id = some ⟨oc_law_id, od_law_id, .func (PySem.W.fnOf "_law_id" "_law_id" (defArgs s_law_id) (defBody s_law_id) (defScope s_law_id) .none kV_law_id dc_law_id pm_law_id an_law_id cd_law_id ct_law_id), sl_law_id⟩)
    (c_law_id : PySem.W.codeIn K cd_law_id "_law_id" = true)
    (k_law_id : PySem.W.keepIn K (.ref f_law_id) = true)
    (a_law_bad : PySem.W.nsIn K mainGlobals "_law_bad" = some (some (.ref f_law_bad)))
    (l_law_bad : K.lookup f_law_bad = some ⟨oc_law_bad, od_law_bad, .func (PySem.W.fnOf "_law_bad" "_law_bad" (defArgs s_law_bad) (defBody s_law_bad) (defScope s_law_bad) .none kV_law_bad dc_law_bad pm_law_bad an_law_bad cd_law_bad ct_law_bad), sl_law_bad⟩)
    (c_law_bad : PySem.W.codeIn K cd_law_bad "_law_bad" = true)
    (k_law_bad : PySem.W.keepIn K (.ref f_law_bad) = true)
    (a_look_packet : PySem.W.nsIn K mainGlobals "look_packet" = some (some (.ref f_look_packet)))
    (l_look_packet : K.lookup f_look_packet = some ⟨oc_look_packet, od_look_packet, .func (PySem.W.fnOf "look_packet" "look_packet" (defArgs s_look_packet) (defBody s_look_packet) (defScope s_look_packet) .none kV_look_packet dc_look_packet pm_look_packet an_look_packet cd_look_packet ct_look_packet), sl_look_packet⟩)
    (c_look_packet : PySem.W.codeIn K cd_look_packet "look_packet" = true)
    (k_look_packet : PySem.W.keepIn K (.ref f_look_packet) = true)
    (a_read_rest : PySem.W.nsIn K mainGlobals "read_rest" = some (some (.ref f_read_rest)))
    (l_read_rest : K.lookup f_read_rest = some ⟨oc_read_rest, od_read_rest, .func (PySem.W.fnOf "read_rest" "read_rest" (defArgs s_read_rest) (defBody s_read_rest) (defScope s_read_rest) .none kV_read_rest dc_read_rest pm_read_rest an_read_rest cd_read_rest ct_read_rest), sl_read_rest⟩)
    (c_read_rest : PySem.W.codeIn K cd_read_rest "read_rest" = true)
    (k_read_rest : PySem.W.keepIn K (.ref f_read_rest) = true)
    (a_law_level : PySem.W.nsIn K mainGlobals "_law_level" = some (some (.ref f_law_level)))
    (l_law_level : K.lookup f_law_level = some ⟨oc_law_level, od_law_level, .func (PySem.W.fnOf "_law_level" "_law_level" (defArgs s_law_level) (defBody s_law_level) (defScope s_law_level) .none kV_law_level dc_law_level pm_law_level an_law_level cd_law_level ct_law_level), sl_law_level⟩)
    (c_law_level : PySem.W.codeIn K cd_law_level "_law_level" = true)
    (k_law_level : PySem.W.keepIn K (.ref f_law_level) = true)
    (a_law_body : PySem.W.nsIn K mainGlobals "_law_body" = some (some (.ref f_law_body)))
    (l_law_body : K.lookup f_law_body = some ⟨oc_law_body, od_law_body, .func (PySem.W.fnOf "_law_body" "_law_body" (defArgs s_law_body) (defBody s_law_body) (defScope s_law_body) .none kV_law_body dc_law_body pm_law_body an_law_body cd_law_body ct_law_body), sl_law_body⟩)
    (c_law_body : PySem.W.codeIn K cd_law_body "_law_body" = true)
    (k_law_body : PySem.W.keepIn K (.ref f_law_body) = true)
    (a_written_packet : PySem.W.nsIn K mainGlobals "written_packet" = some (some (.ref f_written_packet)))
    (l_written_packet : K.lookup f_written_packet = some ⟨oc_written_packet, od_written_packet, .func (PySem.W.fnOf "written_packet" "written_packet" (defArgs s_written_packet) (defBody s_written_packet) (defScope s_written_packet) .none kV_written_packet dc_written_packet pm_written_packet an_written_packet cd_written_packet ct_written_packet), sl_written_packet⟩)
    (c_written_packet : PySem.W.codeIn K cd_written_packet "written_packet" = true)
    (k_written_packet : PySem.W.keepIn K (.ref f_written_packet) = true)
    (a_law_name : PySem.W.nsIn K mainGlobals "_law_name" = some (some (.ref f_law_name)))
    (l_law_name : K.lookup f_law_name = some ⟨oc_law_name, od_law_name, .func (PySem.W.fnOf "_law_name" "_law_name" (defArgs s_law_name) (defBody s_law_name) (defScope s_law_name) .none kV_law_name dc_law_name pm_law_name an_law_name cd_law_name ct_law_name), sl_law_name⟩)
    (c_law_name : PySem.W.codeIn K cd_law_name "_law_name" = true)
    (k_law_name : PySem.W.keepIn K (.ref f_law_name) = true)
    (a_law_wish : PySem.W.nsIn K mainGlobals "_law_wish" = some (some (.ref f_law_wish)))
    (l_law_wish : K.lookup f_law_wish = some ⟨oc_law_wish, od_law_wish, .func (PySem.W.fnOf "_law_wish" "_law_wish" (defArgs s_law_wish) (defBody s_law_wish) (defScope s_law_wish) .none kV_law_wish dc_law_wish pm_law_wish an_law_wish cd_law_wish ct_law_wish), sl_law_wish⟩)
    (c_law_wish : PySem.W.codeIn K cd_law_wish "_law_wish" = true)
    (k_law_wish : PySem.W.keepIn K (.ref f_law_wish) = true)
    (a_read_packet : PySem.W.nsIn K mainGlobals "read_packet" = some (some (.ref f_read_packet)))
    (l_read_packet : K.lookup f_read_packet = some ⟨oc_read_packet, od_read_packet, .func (PySem.W.fnOf "read_packet" "read_packet" (defArgs s_read_packet) (defBody s_read_packet) (defScope s_read_packet) .none kV_read_packet dc_read_packet pm_read_packet an_read_packet cd_read_packet ct_read_packet), sl_read_packet⟩)
    (c_read_packet : PySem.W.codeIn K cd_read_packet "read_packet" = true)
    (k_read_packet : PySem.W.keepIn K (.ref f_read_packet) = true)
    (a_law_tiding : PySem.W.nsIn K mainGlobals "_law_tiding" = some (some (.ref f_law_tiding)))
    (l_law_tiding : K.lookup f_law_tiding = some ⟨oc_law_tiding, od_law_tiding, .func (PySem.W.fnOf "_law_tiding" "_law_tiding" (defArgs s_law_tiding) (defBody s_law_tiding) (defScope s_law_tiding) .none kV_law_tiding dc_law_tiding pm_law_tiding an_law_tiding cd_law_tiding ct_law_tiding), sl_law_tiding⟩)
    (c_law_tiding : PySem.W.codeIn K cd_law_tiding "_law_tiding" = true)
    (k_law_tiding : PySem.W.keepIn K (.ref f_law_tiding) = true)
    (a_law_packet : PySem.W.nsIn K mainGlobals "_law_packet" = some (some (.ref f_law_packet)))
    (l_law_packet : K.lookup f_law_packet = some ⟨oc_law_packet, od_law_packet, .func (PySem.W.fnOf "_law_packet" "_law_packet" (defArgs s_law_packet) (defBody s_law_packet) (defScope s_law_packet) .none kV_law_packet dc_law_packet pm_law_packet an_law_packet cd_law_packet ct_law_packet), sl_law_packet⟩)
    (c_law_packet : PySem.W.codeIn K cd_law_packet "_law_packet" = true)
    (k_law_packet : PySem.W.keepIn K (.ref f_law_packet) = true)
    (a_law_told : PySem.W.nsIn K mainGlobals "_law_told" = some (some (.ref f_law_told)))
    (l_law_told : K.lookup f_law_told = some ⟨oc_law_told, od_law_told, .func (PySem.W.fnOf "_law_told" "_law_told" (defArgs s_law_told) (defBody s_law_told) (defScope s_law_told) .none kV_law_told dc_law_told pm_law_told an_law_told cd_law_told ct_law_told), sl_law_told⟩)
    (c_law_told : PySem.W.codeIn K cd_law_told "_law_told" = true)
    (k_law_told : PySem.W.keepIn K (.ref f_law_told) = true)
    (a_law : PySem.W.nsIn K mainGlobals "law" = some (some (.ref f_law)))
    (l_law : K.lookup f_law = some ⟨oc_law, od_law, .func (PySem.W.fnOf "law" "law" (defArgs s_law) (defBody s_law) (defScope s_law) .none kV_law dc_law pm_law an_law cd_law ct_law), sl_law⟩)
    (c_law : PySem.W.codeIn K cd_law "law" = true)
    (k_law : PySem.W.keepIn K (.ref f_law) = true)
    (pg_Bytes : PySem.W.plainGet K C_Bytes Str.empty = true)
    (hd_Bytes : PySem.W.hasDictIn K C_Bytes = true)
    (po_Bytes : PySem.W.plainOver K C_Bytes = true)
    (sa_Bytes : PySem.W.findIn K (.ref C_Bytes) "__setattr__" = some (some (.builtin "object.__setattr__")))
    (mk_Bytes : PySem.W.makesIn K C_Bytes = true)
    (n_Bytes_row : PySem.W.findIn K (.ref C_Bytes) "row" = some none)
    (n_Bytes_spot : PySem.W.findIn K (.ref C_Bytes) "spot" = some none)
    (x_TidingError : PySem.W.excIn K C_TidingError [.type "ValueError", .type "Exception", .type "BaseException", .type "object"] "ValueError.__new__" = true)
    (b_TidingError : PySem.W.subIn K (.ref C_TidingError) (.type "BaseException") = some true)
    (t_TidingError : PySem.W.typeIn K (.ref C_TidingError) = some (.type "type"))
    (x_BadName : PySem.W.excIn K C_BadName [.type "ValueError", .type "Exception", .type "BaseException", .type "object"] "ValueError.__new__" = true)
    (b_BadName : PySem.W.subIn K (.ref C_BadName) (.type "BaseException") = some true)
    (t_BadName : PySem.W.typeIn K (.ref C_BadName) = some (.type "type"))
    (x_BadPacket : PySem.W.excIn K C_BadPacket [.type "ValueError", .type "Exception", .type "BaseException", .type "object"] "ValueError.__new__" = true)
    (b_BadPacket : PySem.W.subIn K (.ref C_BadPacket) (.type "BaseException") = some true)
    (t_BadPacket : PySem.W.typeIn K (.ref C_BadPacket) = some (.type "type"))
    (x_BadBytes : PySem.W.excIn K C_BadBytes [.type "ValueError", .type "Exception", .type "BaseException", .type "object"] "ValueError.__new__" = true)
    (b_BadBytes : PySem.W.subIn K (.ref C_BadBytes) (.type "BaseException") = some true)
    (t_BadBytes : PySem.W.typeIn K (.ref C_BadBytes) = some (.type "type"))
    (x_BadLine : PySem.W.excIn K C_BadLine [.type "ValueError", .type "Exception", .type "BaseException", .type "object"] "ValueError.__new__" = true)
    (b_BadLine : PySem.W.subIn K (.ref C_BadLine) (.type "BaseException") = some true)
    (t_BadLine : PySem.W.typeIn K (.ref C_BadLine) = some (.type "type"))
    (x_BadText : PySem.W.excIn K C_BadText [.type "ValueError", .type "Exception", .type "BaseException", .type "object"] "ValueError.__new__" = true)
    (b_BadText : PySem.W.subIn K (.ref C_BadText) (.type "BaseException") = some true)
    (t_BadText : PySem.W.typeIn K (.ref C_BadText) = some (.type "type"))
    (zm_BadName_BadName : PySem.W.exmOne K (.ref C_BadName) (.ref C_BadName) = some true)
    (zn_TidingError_BadName : PySem.W.exmOne K (.ref C_TidingError) (.ref C_BadName) = some false)
    (zn_BadPacket_BadName : PySem.W.exmOne K (.ref C_BadPacket) (.ref C_BadName) = some false)
    (zn_BadBytes_BadName : PySem.W.exmOne K (.ref C_BadBytes) (.ref C_BadName) = some false)
    (zn_BadLine_BadName : PySem.W.exmOne K (.ref C_BadLine) (.ref C_BadName) = some false)
    (zn_BadText_BadName : PySem.W.exmOne K (.ref C_BadText) (.ref C_BadName) = some false)
    (zm_BadPacket_BadPacket : PySem.W.exmOne K (.ref C_BadPacket) (.ref C_BadPacket) = some true)
    (zn_TidingError_BadPacket : PySem.W.exmOne K (.ref C_TidingError) (.ref C_BadPacket) = some false)
    (zn_BadName_BadPacket : PySem.W.exmOne K (.ref C_BadName) (.ref C_BadPacket) = some false)
    (zn_BadBytes_BadPacket : PySem.W.exmOne K (.ref C_BadBytes) (.ref C_BadPacket) = some false)
    (zn_BadLine_BadPacket : PySem.W.exmOne K (.ref C_BadLine) (.ref C_BadPacket) = some false)
    (zn_BadText_BadPacket : PySem.W.exmOne K (.ref C_BadText) (.ref C_BadPacket) = some false)
    (zm_TidingError_TidingError : PySem.W.exmOne K (.ref C_TidingError) (.ref C_TidingError) = some true)
    (zm_BadName_TidingError : PySem.W.exmOne K (.ref C_BadName) (.ref C_TidingError) = some true)
    (zm_BadPacket_TidingError : PySem.W.exmOne K (.ref C_BadPacket) (.ref C_TidingError) = some true)
    (zm_BadBytes_TidingError : PySem.W.exmOne K (.ref C_BadBytes) (.ref C_TidingError) = some true)
    (zm_BadLine_TidingError : PySem.W.exmOne K (.ref C_BadLine) (.ref C_TidingError) = some true)
    (zm_BadText_TidingError : PySem.W.exmOne K (.ref C_BadText) (.ref C_TidingError) = some true)
    (hn0 : PySem.W.specialIn K (.builtin "object.__class__") "__get__" = some (some (.builtin "getset_descriptor.__get__")))
    (ht0 : PySem.W.takesIn K (.builtin "object.__class__") = some true)
    (e1_TidingError : PySem.W.findIn K (.ref C_TidingError) "__getattribute__" = some (some (.builtin "BaseException.__getattribute__")))
    (e2_TidingError : PySem.W.findIn K (.ref C_TidingError) "__getattr__" = some none)
    (e3_TidingError : PySem.W.hasDictIn K C_TidingError = true)
    (e4_TidingError : PySem.W.findIn K (.ref C_TidingError) "__class__" = some (some (.builtin "object.__class__")))
    (e5_TidingError : PySem.W.mroIn K C_TidingError (.type "object") = some true)
    (e1_BadName : PySem.W.findIn K (.ref C_BadName) "__getattribute__" = some (some (.builtin "BaseException.__getattribute__")))
    (e2_BadName : PySem.W.findIn K (.ref C_BadName) "__getattr__" = some none)
    (e3_BadName : PySem.W.hasDictIn K C_BadName = true)
    (e4_BadName : PySem.W.findIn K (.ref C_BadName) "__class__" = some (some (.builtin "object.__class__")))
    (e5_BadName : PySem.W.mroIn K C_BadName (.type "object") = some true)
    (e1_BadPacket : PySem.W.findIn K (.ref C_BadPacket) "__getattribute__" = some (some (.builtin "BaseException.__getattribute__")))
    (e2_BadPacket : PySem.W.findIn K (.ref C_BadPacket) "__getattr__" = some none)
    (e3_BadPacket : PySem.W.hasDictIn K C_BadPacket = true)
    (e4_BadPacket : PySem.W.findIn K (.ref C_BadPacket) "__class__" = some (some (.builtin "object.__class__")))
    (e5_BadPacket : PySem.W.mroIn K C_BadPacket (.type "object") = some true)
    (e1_BadBytes : PySem.W.findIn K (.ref C_BadBytes) "__getattribute__" = some (some (.builtin "BaseException.__getattribute__")))
    (e2_BadBytes : PySem.W.findIn K (.ref C_BadBytes) "__getattr__" = some none)
    (e3_BadBytes : PySem.W.hasDictIn K C_BadBytes = true)
    (e4_BadBytes : PySem.W.findIn K (.ref C_BadBytes) "__class__" = some (some (.builtin "object.__class__")))
    (e5_BadBytes : PySem.W.mroIn K C_BadBytes (.type "object") = some true)
    (e1_BadLine : PySem.W.findIn K (.ref C_BadLine) "__getattribute__" = some (some (.builtin "BaseException.__getattribute__")))
    (e2_BadLine : PySem.W.findIn K (.ref C_BadLine) "__getattr__" = some none)
    (e3_BadLine : PySem.W.hasDictIn K C_BadLine = true)
    (e4_BadLine : PySem.W.findIn K (.ref C_BadLine) "__class__" = some (some (.builtin "object.__class__")))
    (e5_BadLine : PySem.W.mroIn K C_BadLine (.type "object") = some true)
    (e1_BadText : PySem.W.findIn K (.ref C_BadText) "__getattribute__" = some (some (.builtin "BaseException.__getattribute__")))
    (e2_BadText : PySem.W.findIn K (.ref C_BadText) "__getattr__" = some none)
    (e3_BadText : PySem.W.hasDictIn K C_BadText = true)
    (e4_BadText : PySem.W.findIn K (.ref C_BadText) "__class__" = some (some (.builtin "object.__class__")))
    (e5_BadText : PySem.W.mroIn K C_BadText (.type "object") = some true)
    (zk_TidingError_BadName : PySem.W.kitOne K (.ref C_TidingError) (.ref C_BadName) = some false)
    (zk_BadName_BadName : PySem.W.kitOne K (.ref C_BadName) (.ref C_BadName) = some true)
    (zk_BadPacket_BadName : PySem.W.kitOne K (.ref C_BadPacket) (.ref C_BadName) = some false)
    (zk_BadBytes_BadName : PySem.W.kitOne K (.ref C_BadBytes) (.ref C_BadName) = some false)
    (zk_BadLine_BadName : PySem.W.kitOne K (.ref C_BadLine) (.ref C_BadName) = some false)
    (zk_BadText_BadName : PySem.W.kitOne K (.ref C_BadText) (.ref C_BadName) = some false)
    (zk_TidingError_BadPacket : PySem.W.kitOne K (.ref C_TidingError) (.ref C_BadPacket) = some false)
    (zk_BadName_BadPacket : PySem.W.kitOne K (.ref C_BadName) (.ref C_BadPacket) = some false)
    (zk_BadPacket_BadPacket : PySem.W.kitOne K (.ref C_BadPacket) (.ref C_BadPacket) = some true)
    (zk_BadBytes_BadPacket : PySem.W.kitOne K (.ref C_BadBytes) (.ref C_BadPacket) = some false)
    (zk_BadLine_BadPacket : PySem.W.kitOne K (.ref C_BadLine) (.ref C_BadPacket) = some false)
    (zk_BadText_BadPacket : PySem.W.kitOne K (.ref C_BadText) (.ref C_BadPacket) = some false)
    (zk_TidingError_BadBytes : PySem.W.kitOne K (.ref C_TidingError) (.ref C_BadBytes) = some false)
    (zk_BadName_BadBytes : PySem.W.kitOne K (.ref C_BadName) (.ref C_BadBytes) = some false)
    (zk_BadPacket_BadBytes : PySem.W.kitOne K (.ref C_BadPacket) (.ref C_BadBytes) = some false)
    (zk_BadBytes_BadBytes : PySem.W.kitOne K (.ref C_BadBytes) (.ref C_BadBytes) = some true)
    (zk_BadLine_BadBytes : PySem.W.kitOne K (.ref C_BadLine) (.ref C_BadBytes) = some false)
    (zk_BadText_BadBytes : PySem.W.kitOne K (.ref C_BadText) (.ref C_BadBytes) = some false)
    (zk_TidingError_BadLine : PySem.W.kitOne K (.ref C_TidingError) (.ref C_BadLine) = some false)
    (zk_BadName_BadLine : PySem.W.kitOne K (.ref C_BadName) (.ref C_BadLine) = some false)
    (zk_BadPacket_BadLine : PySem.W.kitOne K (.ref C_BadPacket) (.ref C_BadLine) = some false)
    (zk_BadBytes_BadLine : PySem.W.kitOne K (.ref C_BadBytes) (.ref C_BadLine) = some false)
    (zk_BadLine_BadLine : PySem.W.kitOne K (.ref C_BadLine) (.ref C_BadLine) = some true)
    (zk_BadText_BadLine : PySem.W.kitOne K (.ref C_BadText) (.ref C_BadLine) = some false)
    (zk_TidingError_BadText : PySem.W.kitOne K (.ref C_TidingError) (.ref C_BadText) = some false)
    (zk_BadName_BadText : PySem.W.kitOne K (.ref C_BadName) (.ref C_BadText) = some false)
    (zk_BadPacket_BadText : PySem.W.kitOne K (.ref C_BadPacket) (.ref C_BadText) = some false)
    (zk_BadBytes_BadText : PySem.W.kitOne K (.ref C_BadBytes) (.ref C_BadText) = some false)
    (zk_BadLine_BadText : PySem.W.kitOne K (.ref C_BadLine) (.ref C_BadText) = some false)
    (zk_BadText_BadText : PySem.W.kitOne K (.ref C_BadText) (.ref C_BadText) = some true)
    (zk_TidingError_ValueError : PySem.W.kitOne K (.ref C_TidingError) (.type "ValueError") = some true)
    (zk_BadName_ValueError : PySem.W.kitOne K (.ref C_BadName) (.type "ValueError") = some true)
    (zk_BadPacket_ValueError : PySem.W.kitOne K (.ref C_BadPacket) (.type "ValueError") = some true)
    (zk_BadBytes_ValueError : PySem.W.kitOne K (.ref C_BadBytes) (.type "ValueError") = some true)
    (zk_BadLine_ValueError : PySem.W.kitOne K (.ref C_BadLine) (.type "ValueError") = some true)
    (zk_BadText_ValueError : PySem.W.kitOne K (.ref C_BadText) (.type "ValueError") = some true)
    (n_ValueError : PySem.W.nsIn K mainGlobals "ValueError" = some none)
    (n_all : PySem.W.nsIn K mainGlobals "all" = some none)
    (n_int : PySem.W.nsIn K mainGlobals "int" = some none)
    (n_isinstance : PySem.W.nsIn K mainGlobals "isinstance" = some none)
    (n_len : PySem.W.nsIn K mainGlobals "len" = some none)
    (n_list : PySem.W.nsIn K mainGlobals "list" = some none)
    (n_ord : PySem.W.nsIn K mainGlobals "ord" = some none)
    (n_range : PySem.W.nsIn K mainGlobals "range" = some none)
    (n_tuple : PySem.W.nsIn K mainGlobals "tuple" = some none)
    (v_MOST_LEVELS : PySem.W.nsIn K mainGlobals "MOST_LEVELS" = some (some (.int 8 t_MOST_LEVELS)))
    (v_MOST_SIGNS : PySem.W.nsIn K mainGlobals "MOST_SIGNS" = some (some (.int 12 t_MOST_SIGNS)))
    (v_SMALL : PySem.W.nsIn K mainGlobals "SMALL" = some (some (.str (Str.ofString "abcdefghijklmnopqrstuvwxyz0123456789") t_SMALL)))
    (v_MOST_BODY : PySem.W.nsIn K mainGlobals "MOST_BODY" = some (some (.int 300 t_MOST_BODY)))
    (v_MOST_ID : PySem.W.nsIn K mainGlobals "MOST_ID" = some (some (.int 65535 t_MOST_ID)))
    (v_MOST_WISHES : PySem.W.nsIn K mainGlobals "MOST_WISHES" = some (some (.int 10 t_MOST_WISHES)))
    (v_MOST_REST : PySem.W.nsIn K mainGlobals "MOST_REST" = some (some (.int 2000 t_MOST_REST)))
    (v_REFUSED : PySem.W.nsIn K mainGlobals "REFUSED" = some (some (.int 128 t_REFUSED)))
    (v_SIGNS : PySem.W.nsIn K mainGlobals "SIGNS" = some (some (.str (Str.ofString " !\"#$ &'()*+,-./0123456789:;<=>?@ABCDEFGHIJKLMNOPQRSTUVWXYZ[\\]^_`abcdefghijklmnopqrstuvwxyz{|}~") t_SIGNS)))
    (v_KINDS : PySem.W.nsIn K mainGlobals "KINDS" = some (some (.ref L_KINDS)))
    (lk_KINDS : K.lookup L_KINDS = some ⟨.type "list", none, .seq its_KINDS n_KINDS, #[]⟩)
    (iv_KINDS : its_KINDS.toList.map txtV = c_KINDS.map some)
    (v_MORE_KINDS : PySem.W.nsIn K mainGlobals "MORE_KINDS" = some (some (.ref L_MORE_KINDS)))
    (lk_MORE_KINDS : K.lookup L_MORE_KINDS = some ⟨.type "list", none, .seq its_MORE_KINDS n_MORE_KINDS, #[]⟩)
    (iv_MORE_KINDS : its_MORE_KINDS.toList.map txtV = c_MORE_KINDS.map some)
    (v_LENGTHS : PySem.W.nsIn K mainGlobals "LENGTHS" = some (some (.ref L_LENGTHS)))
    (lk_LENGTHS : K.lookup L_LENGTHS = some ⟨.type "dict", none, .dict es_LENGTHS n_LENGTHS, #[]⟩)
    (iv_sys_LENGTHS : (L_LENGTHS == sysModules) = false)
    (iv_ky_LENGTHS : es_LENGTHS.toList.map He.keyOf = He.keysIn w.params (c_LENGTHS.map (·.1)))
    (iv_vl_LENGTHS : es_LENGTHS.toList.map (fun e => intV e.val) = c_LENGTHS.map fun x => some x.2)
    (v_MORE_LENGTHS : PySem.W.nsIn K mainGlobals "MORE_LENGTHS" = some (some (.ref L_MORE_LENGTHS)))
    (lk_MORE_LENGTHS : K.lookup L_MORE_LENGTHS = some ⟨.type "dict", none, .dict es_MORE_LENGTHS n_MORE_LENGTHS, #[]⟩)
    (iv_sys_MORE_LENGTHS : (L_MORE_LENGTHS == sysModules) = false)
    (iv_ky_MORE_LENGTHS : es_MORE_LENGTHS.toList.map He.keyOf = He.keysIn w.params (c_MORE_LENGTHS.map (·.1)))
    (iv_vl_MORE_LENGTHS : es_MORE_LENGTHS.toList.map (fun e => intV e.val) = c_MORE_LENGTHS.map fun x => some x.2) :
    ∃ fd : FuncData, (∀ (s : Shared) (v : Value), BindsTo s fd ⟨[v], []⟩ [("script", v)]) ∧ ∀ base : Heap, K.In base → base.Ns mainGlobals mg → FnOk l.prog w K mg base (cxt true l.prog w) 10 fa fd ["script"] (spD ⟨K, mg, J, w⟩ 1 m_law) := by
  have e : fa = f_law := by
    have z := hfa.symm.trans (PySem.W.mg_of X G a_law)
    cases z
    rfl
  rw [e]
  have F_is_level := fun_mk (st := s_is_level) l_is_level c_is_level k_is_level
  have B_is_level := F_is_level.binds (ps := ["level"]) fun _ _ _ _ _ _ us hl => match us, hl with | [_], _ => rfl
  have F_look_hearer := fun_mk (st := s_look_hearer) l_look_hearer c_look_hearer k_look_hearer
  have B_look_hearer := F_look_hearer.binds (ps := ["hearer"]) fun _ _ _ _ _ _ us hl => match us, hl with | [_], _ => rfl
  have F_look_grade := fun_mk (st := s_look_grade) l_look_grade c_look_grade k_look_grade
  have B_look_grade := F_look_grade.binds (ps := ["grade"]) fun _ _ _ _ _ _ us hl => match us, hl with | [_], _ => rfl
  have F_kind_number := fun_mk (st := s_kind_number) l_kind_number c_kind_number k_kind_number
  have B_kind_number := F_kind_number.binds (ps := ["word"]) fun _ _ _ _ _ _ us hl => match us, hl with | [_], _ => rfl
  have F_must := fun_mk (st := s_must) l_must c_must k_must
  have B_must := F_must.binds (ps := ["right"]) fun _ _ _ _ _ _ us hl => match us, hl with | [_], _ => rfl
  have F_is_body := fun_mk (st := s_is_body) l_is_body c_is_body k_is_body
  have B_is_body := F_is_body.binds (ps := ["body"]) fun _ _ _ _ _ _ us hl => match us, hl with | [_], _ => rfl
  have F_is_id := fun_mk (st := s_is_id) l_is_id c_is_id k_is_id
  have B_is_id := F_is_id.binds (ps := ["number"]) fun _ _ _ _ _ _ us hl => match us, hl with | [_], _ => rfl
  have F_id_bytes := fun_mk (st := s_id_bytes) l_id_bytes c_id_bytes k_id_bytes
  have B_id_bytes := F_id_bytes.binds (ps := ["number"]) fun _ _ _ _ _ _ us hl => match us, hl with | [_], _ => rfl
  have F_length_bytes := fun_mk (st := s_length_bytes) l_length_bytes c_length_bytes k_length_bytes
  have B_length_bytes := F_length_bytes.binds (ps := ["many"]) fun _ _ _ _ _ _ us hl => match us, hl with | [_], _ => rfl
  have F_Bytes_init := fun_mk (st := s_Bytes_init) l_Bytes_init c_Bytes_init k_Bytes_init
  have B_Bytes_init := F_Bytes_init.binds (ps := ["self", "row"]) fun _ _ _ _ _ _ us hl => match us, hl with | [_, _], _ => rfl
  have F_Bytes_is_end := fun_mk (st := s_Bytes_is_end) l_Bytes_is_end c_Bytes_is_end k_Bytes_is_end
  have B_Bytes_is_end := F_Bytes_is_end.binds (ps := ["self"]) fun _ _ _ _ _ _ us hl => match us, hl with | [_], _ => rfl
  have F_head_of := fun_mk (st := s_head_of) l_head_of c_head_of k_head_of
  have B_head_of := F_head_of.binds (ps := ["row"]) fun _ _ _ _ _ _ us hl => match us, hl with | [_], _ => rfl
  have F_law_cell := fun_mk (st := s_law_cell) l_law_cell c_law_cell k_law_cell
  have B_law_cell := F_law_cell.binds (ps := ["script", "k"]) fun _ _ _ _ _ _ us hl => match us, hl with | [_, _], _ => rfl
  have F_law_refusal := fun_mk (st := s_law_refusal) l_law_refusal c_law_refusal k_law_refusal
  have B_law_refusal := F_law_refusal.binds (ps := ["held"]) fun _ _ _ _ _ _ us hl => match us, hl with | [_], _ => rfl
  have F_law_codes := fun_mk (st := s_law_codes) l_law_codes c_law_codes k_law_codes
  have B_law_codes := F_law_codes.binds (ps := ["text"]) fun _ _ _ _ _ _ us hl => match us, hl with | [_], _ => rfl
  have F_look_name := fun_mk (st := s_look_name) l_look_name c_look_name k_look_name
  have B_look_name := F_look_name.binds (ps := ["name"]) fun _ _ _ _ _ _ us hl => match us, hl with | [_], _ => rfl
  have F_look_wish := fun_mk (st := s_look_wish) l_look_wish c_look_wish k_look_wish
  have B_look_wish := F_look_wish.binds (ps := ["wish"]) fun _ _ _ _ _ _ us hl => match us, hl with | [_], _ => rfl
  have F_text_bytes := fun_mk (st := s_text_bytes) l_text_bytes c_text_bytes k_text_bytes
  have B_text_bytes := F_text_bytes.binds (ps := ["text"]) fun _ _ _ _ _ _ us hl => match us, hl with | [_], _ => rfl
  have F_Bytes_byte := fun_mk (st := s_Bytes_byte) l_Bytes_byte c_Bytes_byte k_Bytes_byte
  have B_Bytes_byte := F_Bytes_byte.binds (ps := ["self"]) fun _ _ _ _ _ _ us hl => match us, hl with | [_], _ => rfl
  have F_law_mix := fun_mk (st := s_law_mix) l_law_mix c_law_mix k_law_mix
  have B_law_mix := F_law_mix.binds (ps := ["script", "k"]) fun _ _ _ _ _ _ us hl => match us, hl with | [_, _], _ => rfl
  have F_law_counted := fun_mk (st := s_law_counted) l_law_counted c_law_counted k_law_counted
  have B_law_counted := F_law_counted.binds (ps := ["text"]) fun _ _ _ _ _ _ us hl => match us, hl with | [_], _ => rfl
  have F_look_tiding := fun_mk (st := s_look_tiding) l_look_tiding c_look_tiding k_look_tiding
  have B_look_tiding := F_look_tiding.binds (ps := ["name", "body", "grade", "kept"]) fun _ _ _ _ _ _ us hl => match us, hl with | [_, _, _, _], _ => rfl
  have F_look_some := fun_mk (st := s_look_some) l_look_some c_look_some k_look_some
  have B_look_some := F_look_some.binds (ps := ["packet"]) fun _ _ _ _ _ _ us hl => match us, hl with | [_], _ => rfl
  have F_will_bytes := fun_mk (st := s_will_bytes) l_will_bytes c_will_bytes k_will_bytes
  have B_will_bytes := F_will_bytes.binds (ps := ["packet"]) fun _ _ _ _ _ _ us hl => match us, hl with | [_], _ => rfl
  have F_Bytes_number := fun_mk (st := s_Bytes_number) l_Bytes_number c_Bytes_number k_Bytes_number
  have B_Bytes_number := F_Bytes_number.binds (ps := ["self"]) fun _ _ _ _ _ _ us hl => match us, hl with | [_], _ => rfl
  have F_Bytes_text := fun_mk (st := s_Bytes_text) l_Bytes_text c_Bytes_text k_Bytes_text
  have B_Bytes_text := F_Bytes_text.binds (ps := ["self", "many"]) fun _ _ _ _ _ _ us hl => match us, hl with | [_, _], _ => rfl
  have F_law_draw := fun_mk (st := s_law_draw) l_law_draw c_law_draw k_law_draw
  have B_law_draw := F_law_draw.binds (ps := ["script", "town", "many"]) fun _ _ _ _ _ _ us hl => match us, hl with | [_, _, _], _ => rfl
  have F_law_rest := fun_mk (st := s_law_rest) l_law_rest c_law_rest k_law_rest
  have B_law_rest := F_law_rest.binds (ps := ["packet"]) fun _ _ _ _ _ _ us hl => match us, hl with | [_], _ => rfl
  have F_look_say := fun_mk (st := s_look_say) l_look_say c_look_say k_look_say
  have B_look_say := F_look_say.binds (ps := ["packet"]) fun _ _ _ _ _ _ us hl => match us, hl with | [_], _ => rfl
  have F_rest_bytes := fun_mk (st := s_rest_bytes) l_rest_bytes c_rest_bytes k_rest_bytes
  have B_rest_bytes := F_rest_bytes.binds (ps := ["packet"]) fun _ _ _ _ _ _ us hl => match us, hl with | [_], _ => rfl
  have F_Bytes_counted := fun_mk (st := s_Bytes_counted) l_Bytes_counted c_Bytes_counted k_Bytes_counted
  have B_Bytes_counted := F_Bytes_counted.binds (ps := ["self"]) fun _ _ _ _ _ _ us hl => match us, hl with | [_], _ => rfl
  have F_law_pick := fun_mk (st := s_law_pick) l_law_pick c_law_pick k_law_pick
  have B_law_pick := F_law_pick.binds (ps := ["script", "town", "some"]) fun _ _ _ _ _ _ us hl => match us, hl with | [_, _, _], _ => rfl
  have F_law_bytes := fun_mk (st := s_law_bytes) l_law_bytes c_law_bytes k_law_bytes
  have B_law_bytes := F_law_bytes.binds (ps := ["packet"]) fun _ _ _ _ _ _ us hl => match us, hl with | [_], _ => rfl
  have F_look_whole := fun_mk (st := s_look_whole) l_look_whole c_look_whole k_look_whole
  have B_look_whole := F_look_whole.binds (ps := ["packet"]) fun _ _ _ _ _ _ us hl => match us, hl with | [_], _ => rfl
  have F_read_connect := fun_mk (st := s_read_connect) l_read_connect c_read_connect k_read_connect
  have B_read_connect := F_read_connect.binds (ps := ["row"]) fun _ _ _ _ _ _ us hl => match us, hl with | [_], _ => rfl
  have F_read_say := fun_mk (st := s_read_say) l_read_say c_read_say k_read_say
  have B_read_say := F_read_say.binds (ps := ["row", "flags"]) fun _ _ _ _ _ _ us hl => match us, hl with | [_, _], _ => rfl
  have F_read_some := fun_mk (st := s_read_some) l_read_some c_read_some k_read_some
  have B_read_some := F_read_some.binds (ps := ["row", "word"]) fun _ _ _ _ _ _ us hl => match us, hl with | [_, _], _ => rfl
  have F_law_signs := fun_mk (st := s_law_signs) l_law_signs c_law_signs k_law_signs
  have B_law_signs := F_law_signs.binds (ps := ["script", "town", "many", "also"]) fun _ _ _ _ _ _ us hl => match us, hl with | [_, _, _, _], _ => rfl
  have F_law_hearer := fun_mk (st := s_law_hearer) l_law_hearer c_law_hearer k_law_hearer
  have B_law_hearer := F_law_hearer.binds (ps := ["script", "town"]) fun _ _ _ _ _ _ us hl => match us, hl with | [_, _], _ => rfl
  have F_law_id := fun_mk (st := s_law_id) l_law_id c_law_id k_law_id
  have B_law_id := F_law_id.binds (ps := ["script", "town"]) fun _ _ _ _ _ _ us hl => match us, hl with | [_, _], _ => rfl
  have F_law_bad := fun_mk (st := s_law_bad) l_law_bad c_law_bad k_law_bad
  have B_law_bad := F_law_bad.binds (ps := ["script", "town"]) fun _ _ _ _ _ _ us hl => match us, hl with | [_, _], _ => rfl
  have F_look_packet := fun_mk (st := s_look_packet) l_look_packet c_look_packet k_look_packet
  have B_look_packet := F_look_packet.binds (ps := ["packet"]) fun _ _ _ _ _ _ us hl => match us, hl with | [_], _ => rfl
  have F_read_rest := fun_mk (st := s_read_rest) l_read_rest c_read_rest k_read_rest
  have B_read_rest := F_read_rest.binds (ps := ["word", "flags", "row"]) fun _ _ _ _ _ _ us hl => match us, hl with | [_, _, _], _ => rfl
  have F_law_level := fun_mk (st := s_law_level) l_law_level c_law_level k_law_level
  have B_law_level := F_law_level.binds (ps := ["script", "town"]) fun _ _ _ _ _ _ us hl => match us, hl with | [_, _], _ => rfl
  have F_law_body := fun_mk (st := s_law_body) l_law_body c_law_body k_law_body
  have B_law_body := F_law_body.binds (ps := ["script", "town"]) fun _ _ _ _ _ _ us hl => match us, hl with | [_, _], _ => rfl
  have F_written_packet := fun_mk (st := s_written_packet) l_written_packet c_written_packet k_written_packet
  have B_written_packet := F_written_packet.binds (ps := ["packet"]) fun _ _ _ _ _ _ us hl => match us, hl with | [_], _ => rfl
  have F_law_name := fun_mk (st := s_law_name) l_law_name c_law_name k_law_name
  have B_law_name := F_law_name.binds (ps := ["script", "town"]) fun _ _ _ _ _ _ us hl => match us, hl with | [_, _], _ => rfl
  have F_law_wish := fun_mk (st := s_law_wish) l_law_wish c_law_wish k_law_wish
  have B_law_wish := F_law_wish.binds (ps := ["script", "town"]) fun _ _ _ _ _ _ us hl => match us, hl with | [_, _], _ => rfl
  have F_read_packet := fun_mk (st := s_read_packet) l_read_packet c_read_packet k_read_packet
  have B_read_packet := F_read_packet.binds (ps := ["row"]) fun _ _ _ _ _ _ us hl => match us, hl with | [_], _ => rfl
  have F_law_tiding := fun_mk (st := s_law_tiding) l_law_tiding c_law_tiding k_law_tiding
  have B_law_tiding := F_law_tiding.binds (ps := ["script", "town"]) fun _ _ _ _ _ _ us hl => match us, hl with | [_, _], _ => rfl
  have F_law_packet := fun_mk (st := s_law_packet) l_law_packet c_law_packet k_law_packet
  have B_law_packet := F_law_packet.binds (ps := ["script", "town"]) fun _ _ _ _ _ _ us hl => match us, hl with | [_, _], _ => rfl
  have F_law_told := fun_mk (st := s_law_told) l_law_told c_law_told k_law_told
  have B_law_told := F_law_told.binds (ps := ["way", "thing"]) fun _ _ _ _ _ _ us hl => match us, hl with | [_, _], _ => rfl
  have F_law := fun_mk (st := s_law) l_law c_law k_law
  have B_law := F_law.binds (ps := ["script"]) fun _ _ _ _ _ _ us hl => match us, hl with | [_], _ => rfl
  have gC_Bytes := PySem.W.mg_of X G aC_Bytes
  have K_Bytes : Cls K C_Bytes := ⟨pg_Bytes, hd_Bytes, po_Bytes, sa_Bytes⟩
  have E_TidingError : ExcC K C_TidingError := ⟨e1_TidingError, e2_TidingError, b_TidingError, e3_TidingError, e4_TidingError, hn0, ht0, e5_TidingError⟩
  have E_BadName : ExcC K C_BadName := ⟨e1_BadName, e2_BadName, b_BadName, e3_BadName, e4_BadName, hn0, ht0, e5_BadName⟩
  have E_BadPacket : ExcC K C_BadPacket := ⟨e1_BadPacket, e2_BadPacket, b_BadPacket, e3_BadPacket, e4_BadPacket, hn0, ht0, e5_BadPacket⟩
  have E_BadBytes : ExcC K C_BadBytes := ⟨e1_BadBytes, e2_BadBytes, b_BadBytes, e3_BadBytes, e4_BadBytes, hn0, ht0, e5_BadBytes⟩
  have E_BadLine : ExcC K C_BadLine := ⟨e1_BadLine, e2_BadLine, b_BadLine, e3_BadLine, e4_BadLine, hn0, ht0, e5_BadLine⟩
  have E_BadText : ExcC K C_BadText := ⟨e1_BadText, e2_BadText, b_BadText, e3_BadText, e4_BadText, hn0, ht0, e5_BadText⟩
  have T : Txt w K mg { f_is_level := f_is_level, f_look_hearer := f_look_hearer, f_look_grade := f_look_grade, f_kind_number := f_kind_number, f_must := f_must, f_is_body := f_is_body, f_is_id := f_is_id, f_id_bytes := f_id_bytes, f_length_bytes := f_length_bytes, f_Bytes_init := f_Bytes_init, f_Bytes_is_end := f_Bytes_is_end, f_head_of := f_head_of, f_law_cell := f_law_cell, f_law_refusal := f_law_refusal, f_law_codes := f_law_codes, f_look_name := f_look_name, f_look_wish := f_look_wish, f_text_bytes := f_text_bytes, f_Bytes_byte := f_Bytes_byte, f_law_mix := f_law_mix, f_law_counted := f_law_counted, f_look_tiding := f_look_tiding, f_look_some := f_look_some, f_will_bytes := f_will_bytes, f_Bytes_number := f_Bytes_number, f_Bytes_text := f_Bytes_text, f_law_draw := f_law_draw, f_law_rest := f_law_rest, f_look_say := f_look_say, f_rest_bytes := f_rest_bytes, f_Bytes_counted := f_Bytes_counted, f_law_pick := f_law_pick, f_law_bytes := f_law_bytes, f_look_whole := f_look_whole, f_read_connect := f_read_connect, f_read_say := f_read_say, f_read_some := f_read_some, f_law_signs := f_law_signs, f_law_hearer := f_law_hearer, f_law_id := f_law_id, f_law_bad := f_law_bad, f_look_packet := f_look_packet, f_read_rest := f_read_rest, f_law_level := f_law_level, f_law_body := f_law_body, f_written_packet := f_written_packet, f_law_name := f_law_name, f_law_wish := f_law_wish, f_read_packet := f_read_packet, f_law_tiding := f_law_tiding, f_law_packet := f_law_packet, f_law_told := f_law_told, f_law := f_law, C_Bytes := C_Bytes, C_TidingError := C_TidingError, C_BadName := C_BadName, C_BadPacket := C_BadPacket, C_BadBytes := C_BadBytes, C_BadLine := C_BadLine, C_BadText := C_BadText, L_KINDS := L_KINDS, L_MORE_KINDS := L_MORE_KINDS, L_LENGTHS := L_LENGTHS, L_MORE_LENGTHS := L_MORE_LENGTHS, t_MOST_LEVELS := t_MOST_LEVELS, t_MOST_SIGNS := t_MOST_SIGNS, t_SMALL := t_SMALL, t_MOST_BODY := t_MOST_BODY, t_MOST_ID := t_MOST_ID, t_MOST_WISHES := t_MOST_WISHES, t_MOST_REST := t_MOST_REST, t_REFUSED := t_REFUSED, t_SIGNS := t_SIGNS } := { gv_KINDS := PySem.W.mg_of X G v_KINDS, kl_KINDS := ⟨⟨_, _, lk_KINDS, iv_KINDS⟩⟩, gv_MORE_KINDS := PySem.W.mg_of X G v_MORE_KINDS, kl_MORE_KINDS := ⟨⟨_, _, lk_MORE_KINDS, iv_MORE_KINDS⟩⟩, gv_LENGTHS := PySem.W.mg_of X G v_LENGTHS, kt_LENGTHS := ⟨⟨_, _, lk_LENGTHS, iv_sys_LENGTHS, iv_ky_LENGTHS, iv_vl_LENGTHS⟩⟩, gv_MORE_LENGTHS := PySem.W.mg_of X G v_MORE_LENGTHS, kt_MORE_LENGTHS := ⟨⟨_, _, lk_MORE_LENGTHS, iv_sys_MORE_LENGTHS, iv_ky_MORE_LENGTHS, iv_vl_MORE_LENGTHS⟩⟩, d_is_level := ⟨_, F_is_level, B_is_level⟩, g_is_level := PySem.W.mg_of X G a_is_level, k_is_level := k_is_level, d_look_hearer := ⟨_, F_look_hearer, B_look_hearer⟩, g_look_hearer := PySem.W.mg_of X G a_look_hearer, k_look_hearer := k_look_hearer, d_look_grade := ⟨_, F_look_grade, B_look_grade⟩, g_look_grade := PySem.W.mg_of X G a_look_grade, k_look_grade := k_look_grade, d_kind_number := ⟨_, F_kind_number, B_kind_number⟩, g_kind_number := PySem.W.mg_of X G a_kind_number, k_kind_number := k_kind_number, d_must := ⟨_, F_must, B_must⟩, g_must := PySem.W.mg_of X G a_must, k_must := k_must, d_is_body := ⟨_, F_is_body, B_is_body⟩, g_is_body := PySem.W.mg_of X G a_is_body, k_is_body := k_is_body, d_is_id := ⟨_, F_is_id, B_is_id⟩, g_is_id := PySem.W.mg_of X G a_is_id, k_is_id := k_is_id, d_id_bytes := ⟨_, F_id_bytes, B_id_bytes⟩, g_id_bytes := PySem.W.mg_of X G a_id_bytes, k_id_bytes := k_id_bytes, d_length_bytes := ⟨_, F_length_bytes, B_length_bytes⟩, g_length_bytes := PySem.W.mg_of X G a_length_bytes, k_length_bytes := k_length_bytes, d_Bytes_init := ⟨_, F_Bytes_init, B_Bytes_init⟩, d_Bytes_is_end := ⟨_, F_Bytes_is_end, B_Bytes_is_end⟩, d_head_of := ⟨_, F_head_of, B_head_of⟩, g_head_of := PySem.W.mg_of X G a_head_of, k_head_of := k_head_of, d_law_cell := ⟨_, F_law_cell, B_law_cell⟩, g_law_cell := PySem.W.mg_of X G a_law_cell, k_law_cell := k_law_cell, d_law_refusal := ⟨_, F_law_refusal, B_law_refusal⟩, g_law_refusal := PySem.W.mg_of X G a_law_refusal, k_law_refusal := k_law_refusal, d_law_codes := ⟨_, F_law_codes, B_law_codes⟩, g_law_codes := PySem.W.mg_of X G a_law_codes, k_law_codes := k_law_codes, d_look_name := ⟨_, F_look_name, B_look_name⟩, g_look_name := PySem.W.mg_of X G a_look_name, k_look_name := k_look_name, d_look_wish := ⟨_, F_look_wish, B_look_wish⟩, g_look_wish := PySem.W.mg_of X G a_look_wish, k_look_wish := k_look_wish, d_text_bytes := ⟨_, F_text_bytes, B_text_bytes⟩, g_text_bytes := PySem.W.mg_of X G a_text_bytes, k_text_bytes := k_text_bytes, d_Bytes_byte := ⟨_, F_Bytes_byte, B_Bytes_byte⟩, d_law_mix := ⟨_, F_law_mix, B_law_mix⟩, g_law_mix := PySem.W.mg_of X G a_law_mix, k_law_mix := k_law_mix, d_law_counted := ⟨_, F_law_counted, B_law_counted⟩, g_law_counted := PySem.W.mg_of X G a_law_counted, k_law_counted := k_law_counted, d_look_tiding := ⟨_, F_look_tiding, B_look_tiding⟩, g_look_tiding := PySem.W.mg_of X G a_look_tiding, k_look_tiding := k_look_tiding, d_look_some := ⟨_, F_look_some, B_look_some⟩, g_look_some := PySem.W.mg_of X G a_look_some, k_look_some := k_look_some, d_will_bytes := ⟨_, F_will_bytes, B_will_bytes⟩, g_will_bytes := PySem.W.mg_of X G a_will_bytes, k_will_bytes := k_will_bytes, d_Bytes_number := ⟨_, F_Bytes_number, B_Bytes_number⟩, d_Bytes_text := ⟨_, F_Bytes_text, B_Bytes_text⟩, d_law_draw := ⟨_, F_law_draw, B_law_draw⟩, g_law_draw := PySem.W.mg_of X G a_law_draw, k_law_draw := k_law_draw, d_law_rest := ⟨_, F_law_rest, B_law_rest⟩, g_law_rest := PySem.W.mg_of X G a_law_rest, k_law_rest := k_law_rest, d_look_say := ⟨_, F_look_say, B_look_say⟩, g_look_say := PySem.W.mg_of X G a_look_say, k_look_say := k_look_say, d_rest_bytes := ⟨_, F_rest_bytes, B_rest_bytes⟩, g_rest_bytes := PySem.W.mg_of X G a_rest_bytes, k_rest_bytes := k_rest_bytes, d_Bytes_counted := ⟨_, F_Bytes_counted, B_Bytes_counted⟩, d_law_pick := ⟨_, F_law_pick, B_law_pick⟩, g_law_pick := PySem.W.mg_of X G a_law_pick, k_law_pick := k_law_pick, d_law_bytes := ⟨_, F_law_bytes, B_law_bytes⟩, g_law_bytes := PySem.W.mg_of X G a_law_bytes, k_law_bytes := k_law_bytes, d_look_whole := ⟨_, F_look_whole, B_look_whole⟩, g_look_whole := PySem.W.mg_of X G a_look_whole, k_look_whole := k_look_whole, d_read_connect := ⟨_, F_read_connect, B_read_connect⟩, g_read_connect := PySem.W.mg_of X G a_read_connect, k_read_connect := k_read_connect, d_read_say := ⟨_, F_read_say, B_read_say⟩, g_read_say := PySem.W.mg_of X G a_read_say, k_read_say := k_read_say, d_read_some := ⟨_, F_read_some, B_read_some⟩, g_read_some := PySem.W.mg_of X G a_read_some, k_read_some := k_read_some, d_law_signs := ⟨_, F_law_signs, B_law_signs⟩, g_law_signs := PySem.W.mg_of X G a_law_signs, k_law_signs := k_law_signs, d_law_hearer := ⟨_, F_law_hearer, B_law_hearer⟩, g_law_hearer := PySem.W.mg_of X G a_law_hearer, k_law_hearer := k_law_hearer, d_law_id := ⟨_, F_law_id, B_law_id⟩, g_law_id := PySem.W.mg_of X G a_law_id, k_law_id := k_law_id, d_law_bad := ⟨_, F_law_bad, B_law_bad⟩, g_law_bad := PySem.W.mg_of X G a_law_bad, k_law_bad := k_law_bad, d_look_packet := ⟨_, F_look_packet, B_look_packet⟩, g_look_packet := PySem.W.mg_of X G a_look_packet, k_look_packet := k_look_packet, d_read_rest := ⟨_, F_read_rest, B_read_rest⟩, g_read_rest := PySem.W.mg_of X G a_read_rest, k_read_rest := k_read_rest, d_law_level := ⟨_, F_law_level, B_law_level⟩, g_law_level := PySem.W.mg_of X G a_law_level, k_law_level := k_law_level, d_law_body := ⟨_, F_law_body, B_law_body⟩, g_law_body := PySem.W.mg_of X G a_law_body, k_law_body := k_law_body, d_written_packet := ⟨_, F_written_packet, B_written_packet⟩, g_written_packet := PySem.W.mg_of X G a_written_packet, k_written_packet := k_written_packet, d_law_name := ⟨_, F_law_name, B_law_name⟩, g_law_name := PySem.W.mg_of X G a_law_name, k_law_name := k_law_name, d_law_wish := ⟨_, F_law_wish, B_law_wish⟩, g_law_wish := PySem.W.mg_of X G a_law_wish, k_law_wish := k_law_wish, d_read_packet := ⟨_, F_read_packet, B_read_packet⟩, g_read_packet := PySem.W.mg_of X G a_read_packet, k_read_packet := k_read_packet, d_law_tiding := ⟨_, F_law_tiding, B_law_tiding⟩, g_law_tiding := PySem.W.mg_of X G a_law_tiding, k_law_tiding := k_law_tiding, d_law_packet := ⟨_, F_law_packet, B_law_packet⟩, g_law_packet := PySem.W.mg_of X G a_law_packet, k_law_packet := k_law_packet, d_law_told := ⟨_, F_law_told, B_law_told⟩, g_law_told := PySem.W.mg_of X G a_law_told, k_law_told := k_law_told, d_law := ⟨_, F_law, B_law⟩, g_law := PySem.W.mg_of X G a_law, k_law := k_law, a_Bytes_row := ⟨rfl, by decide +kernel, fun C h => by have e := h.symm.trans gC_Bytes; cases e; exact ⟨K_Bytes, n_Bytes_row⟩⟩, a_Bytes_spot := ⟨rfl, by decide +kernel, fun C h => by have e := h.symm.trans gC_Bytes; cases e; exact ⟨K_Bytes, n_Bytes_spot⟩⟩, mk_Bytes := ⟨gC_Bytes, ⟨mk_Bytes, a_Bytes_init, i_Bytes_init, kC_Bytes⟩, by decide⟩, me_Bytes_is_end := ⟨gC_Bytes, by decide +kernel, K_Bytes, ⟨a_Bytes_is_end, i_Bytes_is_end, k_Bytes_is_end⟩⟩, me_Bytes_byte := ⟨gC_Bytes, by decide +kernel, K_Bytes, ⟨a_Bytes_byte, i_Bytes_byte, k_Bytes_byte⟩⟩, me_Bytes_number := ⟨gC_Bytes, by decide +kernel, K_Bytes, ⟨a_Bytes_number, i_Bytes_number, k_Bytes_number⟩⟩, me_Bytes_text := ⟨gC_Bytes, by decide +kernel, K_Bytes, ⟨a_Bytes_text, i_Bytes_text, k_Bytes_text⟩⟩, me_Bytes_counted := ⟨gC_Bytes, by decide +kernel, K_Bytes, ⟨a_Bytes_counted, i_Bytes_counted, k_Bytes_counted⟩⟩, x_TidingError := x_TidingError, gc_TidingError := PySem.W.mg_of X G aC_TidingError, kc_TidingError := kC_TidingError, b_TidingError := b_TidingError, t_TidingError := t_TidingError, x_BadName := x_BadName, gc_BadName := PySem.W.mg_of X G aC_BadName, kc_BadName := kC_BadName, b_BadName := b_BadName, t_BadName := t_BadName, x_BadPacket := x_BadPacket, gc_BadPacket := PySem.W.mg_of X G aC_BadPacket, kc_BadPacket := kC_BadPacket, b_BadPacket := b_BadPacket, t_BadPacket := t_BadPacket, x_BadBytes := x_BadBytes, gc_BadBytes := PySem.W.mg_of X G aC_BadBytes, kc_BadBytes := kC_BadBytes, b_BadBytes := b_BadBytes, t_BadBytes := t_BadBytes, x_BadLine := x_BadLine, gc_BadLine := PySem.W.mg_of X G aC_BadLine, kc_BadLine := kC_BadLine, b_BadLine := b_BadLine, t_BadLine := t_BadLine, x_BadText := x_BadText, gc_BadText := PySem.W.mg_of X G aC_BadText, kc_BadText := kC_BadText, b_BadText := b_BadText, t_BadText := t_BadText, xm_BadName := xm_cons (PySem.W.mg_of X G aC_BadName) zm_BadName_BadName (xm_nil), xn_BadName := xn_cons (PySem.W.mg_of X G aC_TidingError) zn_TidingError_BadName (xn_cons (PySem.W.mg_of X G aC_BadPacket) zn_BadPacket_BadName (xn_cons (PySem.W.mg_of X G aC_BadBytes) zn_BadBytes_BadName (xn_cons (PySem.W.mg_of X G aC_BadLine) zn_BadLine_BadName (xn_cons (PySem.W.mg_of X G aC_BadText) zn_BadText_BadName (xn_nil))))), xm_BadPacket := xm_cons (PySem.W.mg_of X G aC_BadPacket) zm_BadPacket_BadPacket (xm_nil), xn_BadPacket := xn_cons (PySem.W.mg_of X G aC_TidingError) zn_TidingError_BadPacket (xn_cons (PySem.W.mg_of X G aC_BadName) zn_BadName_BadPacket (xn_cons (PySem.W.mg_of X G aC_BadBytes) zn_BadBytes_BadPacket (xn_cons (PySem.W.mg_of X G aC_BadLine) zn_BadLine_BadPacket (xn_cons (PySem.W.mg_of X G aC_BadText) zn_BadText_BadPacket (xn_nil))))), xm_TidingError := xm_cons (PySem.W.mg_of X G aC_TidingError) zm_TidingError_TidingError (xm_cons (PySem.W.mg_of X G aC_BadName) zm_BadName_TidingError (xm_cons (PySem.W.mg_of X G aC_BadPacket) zm_BadPacket_TidingError (xm_cons (PySem.W.mg_of X G aC_BadBytes) zm_BadBytes_TidingError (xm_cons (PySem.W.mg_of X G aC_BadLine) zm_BadLine_TidingError (xm_cons (PySem.W.mg_of X G aC_BadText) zm_BadText_TidingError (xm_nil)))))), xn_TidingError := xn_nil, ix_BadName := isx_cons (PySem.W.mg_of X G aC_TidingError) E_TidingError zk_TidingError_BadName (isx_cons (PySem.W.mg_of X G aC_BadName) E_BadName zk_BadName_BadName (isx_cons (PySem.W.mg_of X G aC_BadPacket) E_BadPacket zk_BadPacket_BadName (isx_cons (PySem.W.mg_of X G aC_BadBytes) E_BadBytes zk_BadBytes_BadName (isx_cons (PySem.W.mg_of X G aC_BadLine) E_BadLine zk_BadLine_BadName (isx_cons (PySem.W.mg_of X G aC_BadText) E_BadText zk_BadText_BadName (isx_nil)))))), ix_BadPacket := isx_cons (PySem.W.mg_of X G aC_TidingError) E_TidingError zk_TidingError_BadPacket (isx_cons (PySem.W.mg_of X G aC_BadName) E_BadName zk_BadName_BadPacket (isx_cons (PySem.W.mg_of X G aC_BadPacket) E_BadPacket zk_BadPacket_BadPacket (isx_cons (PySem.W.mg_of X G aC_BadBytes) E_BadBytes zk_BadBytes_BadPacket (isx_cons (PySem.W.mg_of X G aC_BadLine) E_BadLine zk_BadLine_BadPacket (isx_cons (PySem.W.mg_of X G aC_BadText) E_BadText zk_BadText_BadPacket (isx_nil)))))), ix_BadBytes := isx_cons (PySem.W.mg_of X G aC_TidingError) E_TidingError zk_TidingError_BadBytes (isx_cons (PySem.W.mg_of X G aC_BadName) E_BadName zk_BadName_BadBytes (isx_cons (PySem.W.mg_of X G aC_BadPacket) E_BadPacket zk_BadPacket_BadBytes (isx_cons (PySem.W.mg_of X G aC_BadBytes) E_BadBytes zk_BadBytes_BadBytes (isx_cons (PySem.W.mg_of X G aC_BadLine) E_BadLine zk_BadLine_BadBytes (isx_cons (PySem.W.mg_of X G aC_BadText) E_BadText zk_BadText_BadBytes (isx_nil)))))), ix_BadLine := isx_cons (PySem.W.mg_of X G aC_TidingError) E_TidingError zk_TidingError_BadLine (isx_cons (PySem.W.mg_of X G aC_BadName) E_BadName zk_BadName_BadLine (isx_cons (PySem.W.mg_of X G aC_BadPacket) E_BadPacket zk_BadPacket_BadLine (isx_cons (PySem.W.mg_of X G aC_BadBytes) E_BadBytes zk_BadBytes_BadLine (isx_cons (PySem.W.mg_of X G aC_BadLine) E_BadLine zk_BadLine_BadLine (isx_cons (PySem.W.mg_of X G aC_BadText) E_BadText zk_BadText_BadLine (isx_nil)))))), ix_BadText := isx_cons (PySem.W.mg_of X G aC_TidingError) E_TidingError zk_TidingError_BadText (isx_cons (PySem.W.mg_of X G aC_BadName) E_BadName zk_BadName_BadText (isx_cons (PySem.W.mg_of X G aC_BadPacket) E_BadPacket zk_BadPacket_BadText (isx_cons (PySem.W.mg_of X G aC_BadBytes) E_BadBytes zk_BadBytes_BadText (isx_cons (PySem.W.mg_of X G aC_BadLine) E_BadLine zk_BadLine_BadText (isx_cons (PySem.W.mg_of X G aC_BadText) E_BadText zk_BadText_BadText (isx_nil)))))), ix_ValueError := isx_cons (PySem.W.mg_of X G aC_TidingError) E_TidingError zk_TidingError_ValueError (isx_cons (PySem.W.mg_of X G aC_BadName) E_BadName zk_BadName_ValueError (isx_cons (PySem.W.mg_of X G aC_BadPacket) E_BadPacket zk_BadPacket_ValueError (isx_cons (PySem.W.mg_of X G aC_BadBytes) E_BadBytes zk_BadBytes_ValueError (isx_cons (PySem.W.mg_of X G aC_BadLine) E_BadLine zk_BadLine_ValueError (isx_cons (PySem.W.mg_of X G aC_BadText) E_BadText zk_BadText_ValueError (isx_nil)))))), n_ValueError := PySem.W.mg_none_of X G n_ValueError, n_all := PySem.W.mg_none_of X G n_all, n_int := PySem.W.mg_none_of X G n_int, n_isinstance := PySem.W.mg_none_of X G n_isinstance, n_len := PySem.W.mg_none_of X G n_len, n_list := PySem.W.mg_none_of X G n_list, n_ord := PySem.W.mg_none_of X G n_ord, n_range := PySem.W.mg_none_of X G n_range, n_tuple := PySem.W.mg_none_of X G n_tuple, c_MOST_LEVELS := PySem.W.mg_of X G v_MOST_LEVELS, c_MOST_SIGNS := PySem.W.mg_of X G v_MOST_SIGNS, c_SMALL := PySem.W.mg_of X G v_SMALL, c_MOST_BODY := PySem.W.mg_of X G v_MOST_BODY, c_MOST_ID := PySem.W.mg_of X G v_MOST_ID, c_MOST_WISHES := PySem.W.mg_of X G v_MOST_WISHES, c_MOST_REST := PySem.W.mg_of X G v_MOST_REST, c_REFUSED := PySem.W.mg_of X G v_REFUSED, c_SIGNS := PySem.W.mg_of X G v_SIGNS }
  exact ⟨PySem.W.fnOf "law" "law" (defArgs s_law) (defBody s_law) (defScope s_law) .none kV_law dc_law pm_law an_law cd_law ct_law, fun s v => .of_eq rfl, fun base _ _ => fn_law T F_law⟩
def spW (w : World) (K : PySem.W.Frag) : Sp := fun vs H Q E => ∀ mg, spD ⟨K, mg, J, w⟩ 1 m_law vs H Q E
theorem walk (hlaw : ∀ ns : List Int, ns.length ≤ 63 → ∃ s, m_law [.lsk (ns.map .int)] [] = .ok (.bl true) s) {l : PySem.W.OpenLaw} {q : Program} {loose : List Str} {XP : (Str → Option Value) → Heap → Prop} {YP : World → Heap → Prop} {d : DefRec} {K : Params → PySem.W.Frag} (hn : l.most = some 63) (hdf : d.params.defaults = [])
    (hY : ∀ (w : World) (h : Heap), YP w h → (K w.params).In h)
    (F : ∀ (w : World) (mg : Str → Option Value) (fa : Addr) (h : Heap), (K w.params).In h → h.Ns mainGlobals mg → mg d.name = some (.ref fa) →
      ∃ fd : FuncData, (∀ (s : Shared) (u : Value), BindsTo s fd ⟨[u], []⟩ [("script", u)]) ∧ ∀ base : Heap, (K w.params).In base → base.Ns mainGlobals mg → FnOk l.prog w (K w.params) mg base (cxt true l.prog w) 10 fa fd ["script"] (spD ⟨K w.params, mg, J, w⟩ 1 m_law)) :
    PySem.W.WalkO q loose XP YP l.row.toRowW d [] (fun f vs => PySem.call f vs) :=
  L2.walk_of (n := 63) (k := 10) (x := "script") (CX := fun w => cxt true l.prog w) (sp := fun w => spW w (K w.params)) hn (by decide) hdf ⟨rfl, by decide, by decide⟩ hY (fun w mg fa h kx hg hm => by
      obtain ⟨fd, h1, h2⟩ := F w mg fa h kx hg hm
      exact ⟨fd, h1, fun base hb hgb => (h2 base hb hgb).imp fun vs H Q E hs => hs mg⟩) (fun w H a ns hl _ hS mg => law_sp hlaw hl hS) fun w H s e s' h => by
    obtain ⟨_, _, _, _, _, _, _, _, _, _, _, _, z⟩ := h
    exact z
end Tx
namespace Tx
open PySem L2 Pd
/-! ### texts that are written -/
theorem t_slash : Str.ofString "/" = mkS [47] := by decide +kernel
theorem t_hash : Str.ofString "#" = mkS [35] := by decide +kernel
theorem t_plus : Str.ofString "+" = mkS [43] := by decide +kernel
theorem t_nil : Str.ofString "" = mkS [] := by decide +kernel
theorem t_bad : Str.ofString "+#/" = mkS [43, 35, 47] := by decide +kernel
theorem t_a : Str.ofString "a" = mkS [97] := by decide +kernel
/-! ### names and wishes, plainly -/
def sgn (c : Nat) : Bool := 32 ≤ c && c < 127 && c != 37 && !decide (c ∈ [43, 35, 47])
def gl (l : List Nat) : Bool := decide (l.length ≤ 12) && l.all sgn
def isName (l : List Nat) : Bool := !(l == []) && decide ((splC 47 l).length ≤ 8) && (splC 47 l).all gl
def plain (ls : List (List Nat)) : List (List Nat) := if ls.getLast? = some [35] then ls.dropLast else ls
def gw (l : List Nat) : Bool := l == [43] || gl l
def isWish (l : List Nat) : Bool := !(l == []) && decide ((splC 47 l).length ≤ 8) && (plain (splC 47 l)).all gw
theorem ev_is_level (l : List Nat) (s : Sto) : m_is_level [.str (mkS l)] s = .ok (.bl (gl l)) s := by
  by_cases h : l.length ≤ 12
  · have h1 : ¬ ((12 : Int) < l.length) := by omega
    have e3 : ∀ env1 : En, True → lcGo (gN 1) Pd.tYes (eAnd (eChain dLe dLt (eC (.int 32)) (eUn dOrd (eVar 1)) (eC (.int 127))) (eAnd (eOp dNe (eUn dOrd (eVar 1)) (eC (.int 37))) (eOp dNotIn (eVar 1) (eC (.str (mkS [43, 35, 47])))))) (fun _ => True) (l.map fun c => .str (mkS [c])) [some (.str (mkS l)), none] s = .ok (l.map fun c => .bl (sgn c)) s := fun _ _ => by
      refine lc_map trivial fun c _ => ⟨[some (.str (mkS l)), some (.str (mkS [c]))], rfl, rfl, ?_⟩
      by_cases h2 : (32 : Int) ≤ c
      · by_cases h3 : (c : Int) < 127
        · by_cases h4 : (c : Int) = 37
          · have e : c = 37 := by omega
            subst e
            rfl
          · have h5 : ((c : Int) == 37) = false := by simpa using h4
            simp only [evR, Nat.reduceAdd, Nat.reduceSub, Int.reduceBEq, Int.reduceEq, Int.reduceLT, Int.reduceLE, Int.reduceNeg, Int.reduceAdd, Int.reduceSub, Int.reduceMul, Int.reduceToNat, Nat.reduceLT, Nat.reduceLeDiff, reduceIte, Int.reduceNe, Int.reduceBNe, String.reduceBEq, dOrd_mk, dLe, dLt, h2, h3, h5, dNotIn_sign]
            have h6 : sgn c = (!decide (c ∈ [43, 35, 47])) := by
              unfold sgn
              have a1 : decide (32 ≤ c) = true := decide_eq_true (by omega)
              have a2 : decide (c < 127) = true := decide_eq_true (by omega)
              have a3 : (c != 37) = true := by simp; omega
              rw [a1, a2, a3]; rfl
            rw [h6]
        · simp only [evR, Nat.reduceAdd, Nat.reduceSub, Int.reduceBEq, Int.reduceEq, Int.reduceLT, Int.reduceLE, Int.reduceNeg, Int.reduceAdd, Int.reduceSub, Int.reduceMul, Int.reduceToNat, Nat.reduceLT, Nat.reduceLeDiff, reduceIte, Int.reduceNe, Int.reduceBNe, String.reduceBEq, dOrd_mk, dLe, dLt, h2, h3, dNotIn_sign]
          have h6 : sgn c = false := by
            unfold sgn
            have a2 : decide (c < 127) = false := decide_eq_false (by omega)
            rw [a2]; simp
          rw [h6]
      · simp only [evR, Nat.reduceAdd, Nat.reduceSub, Int.reduceBEq, Int.reduceEq, Int.reduceLT, Int.reduceLE, Int.reduceNeg, Int.reduceAdd, Int.reduceSub, Int.reduceMul, Int.reduceToNat, Nat.reduceLT, Nat.reduceLeDiff, reduceIte, Int.reduceNe, Int.reduceBNe, String.reduceBEq, dOrd_mk, dLe, dLt, h2, dNotIn_sign]
        have h6 : sgn c = false := by
          unfold sgn
          have a2 : decide (32 ≤ c) = false := decide_eq_false (by omega)
          rw [a2]; simp
        rw [h6]
    have e4 := e3 [] trivial
    have hg : gl l = l.all sgn := by unfold gl; rw [decide_eq_true h, Bool.true_and]
    unfold m_is_level b_is_level
    simp only [evR, Nat.reduceAdd, Nat.reduceSub, Int.reduceBEq, Int.reduceEq, Int.reduceLT, Int.reduceLE, Int.reduceNeg, Int.reduceAdd, Int.reduceSub, Int.reduceMul, Int.reduceToNat, Nat.reduceLT, Nat.reduceLeDiff, reduceIte, Int.reduceNe, Int.reduceBNe, String.reduceBEq, mkS_len, dGt, h1, t_bad, ev_lc, ev_iSeq, signs_mk, wipeD_nil, wipeD_cons, bndN, e4, dAll_map, hg]
  · have h1 : (12 : Int) < l.length := by omega
    have hg : gl l = false := by unfold gl; rw [decide_eq_false h, Bool.false_and]
    unfold m_is_level b_is_level
    simp only [evR, Nat.reduceAdd, Nat.reduceSub, Int.reduceBEq, Int.reduceEq, Int.reduceLT, Int.reduceLE, Int.reduceNeg, Int.reduceAdd, Int.reduceSub, Int.reduceMul, Int.reduceToNat, Nat.reduceLT, Nat.reduceLeDiff, reduceIte, Int.reduceNe, Int.reduceBNe, String.reduceBEq, mkS_len, dGt, h1, hg]
theorem ev_look_name (l : List Nat) (s : Sto) : m_look_name [.str (mkS l)] s = if isName l = true then .ok .non s else .exc 2 s := by
  have e3 : lcGo (gN 2) Pd.tYes (eCall m_is_level [eVar 2]) (fun _ => True) (lvs (splC 47 l)) [some (.str (mkS l)), some (.lst (lvs (splC 47 l))), none] s = .ok ((splC 47 l).map fun p => .bl (gl p)) s :=
    by
      refine lc_map ?_ fun p _ => ⟨[some (.str (mkS l)), some (.lst (lvs (splC 47 l))), some (.str (mkS p))], rfl, rfl, ?_⟩
      · trivial
      · simp only [evR, Nat.reduceAdd, Nat.reduceSub, Int.reduceBEq, Int.reduceEq, Int.reduceLT, Int.reduceLE, Int.reduceNeg, Int.reduceAdd, Int.reduceSub, Int.reduceMul, Int.reduceToNat, Nat.reduceLT, Nat.reduceLeDiff, reduceIte, Int.reduceNe, Int.reduceBNe, String.reduceBEq, ev_is_level]
  unfold m_look_name b_look_name
  by_cases h1 : (l == []) = true
  · have hn : isName l = false := by unfold isName; rw [h1]; rfl
    simp only [evR, Nat.reduceAdd, Nat.reduceSub, Int.reduceBEq, Int.reduceEq, Int.reduceLT, Int.reduceLE, Int.reduceNeg, Int.reduceAdd, Int.reduceSub, Int.reduceMul, Int.reduceToNat, Nat.reduceLT, Nat.reduceLeDiff, reduceIte, Int.reduceNe, Int.reduceBNe, String.reduceBEq, t_slash, t_nil, isStr_str, dSplit_mk, mkS_beq, h1, ev_raise, hn]
  · have h1' : (l == []) = false := by simpa using h1
    by_cases h2 : (splC 47 l).length ≤ 8
    · have g2 : ¬ ((8 : Int) < (splC 47 l).length) := by omega
      have hn : isName l = (splC 47 l).all gl := by unfold isName; rw [h1', decide_eq_true h2]; rfl
      cases hq : (splC 47 l).all gl with
      | true => simp only [evR, Nat.reduceAdd, Nat.reduceSub, Int.reduceBEq, Int.reduceEq, Int.reduceLT, Int.reduceLE, Int.reduceNeg, Int.reduceAdd, Int.reduceSub, Int.reduceMul, Int.reduceToNat, Nat.reduceLT, Nat.reduceLeDiff, reduceIte, Int.reduceNe, Int.reduceBNe, String.reduceBEq, t_slash, t_nil, isStr_str, dSplit_mk, mkS_beq, h1', dGt, List.length_map, g2, ev_lc, ev_iSeq, wipeD_nil, wipeD_cons, bndN, e3, dAll_map, hq, ev_raise, hn]
      | false => simp only [evR, Nat.reduceAdd, Nat.reduceSub, Int.reduceBEq, Int.reduceEq, Int.reduceLT, Int.reduceLE, Int.reduceNeg, Int.reduceAdd, Int.reduceSub, Int.reduceMul, Int.reduceToNat, Nat.reduceLT, Nat.reduceLeDiff, reduceIte, Int.reduceNe, Int.reduceBNe, String.reduceBEq, t_slash, t_nil, isStr_str, dSplit_mk, mkS_beq, h1', dGt, List.length_map, g2, ev_lc, ev_iSeq, wipeD_nil, wipeD_cons, bndN, e3, dAll_map, hq, ev_raise, hn]
    · have g2 : (8 : Int) < (splC 47 l).length := by omega
      have hn : isName l = false := by unfold isName; rw [h1', decide_eq_false h2]; rfl
      simp only [evR, Nat.reduceAdd, Nat.reduceSub, Int.reduceBEq, Int.reduceEq, Int.reduceLT, Int.reduceLE, Int.reduceNeg, Int.reduceAdd, Int.reduceSub, Int.reduceMul, Int.reduceToNat, Nat.reduceLT, Nat.reduceLeDiff, reduceIte, Int.reduceNe, Int.reduceBNe, String.reduceBEq, t_slash, t_nil, isStr_str, dSplit_mk, mkS_beq, h1', dGt, List.length_map, g2, ev_raise, hn]
/-! ### the law's draws -/
def cell (ns : List Int) (k : Int) : Int := if ns = [] then 0 else (ns[(k % ns.length).toNat]?).getD 0
def mixA (ns : List Int) (k : Int) : Int := (cell ns k + 104729 * (k + 1)) % 4294967291
def mixB (ns : List Int) (k : Int) : Int := mixA ns k ^ 5 % 4294967279
def mix (ns : List Int) (k : Int) : Int := (mixB ns k / 64 * 69621 + mixB ns k) % 4294967231
def dr (ns : List Int) (n : Nat) (many : Int) : Int := mix ns n / 8 % many
theorem dr_nonneg (ns : List Int) (n : Nat) {m : Int} (h : 0 < m) : 0 ≤ dr ns n m := Int.emod_nonneg _ (by omega)
theorem dr_lt (ns : List Int) (n : Nat) {m : Int} (h : 0 < m) : dr ns n m < m := Int.emod_lt_of_pos _ h
theorem mod_ok {m : Int} (h : 0 < m) (i : Int) : (0 ≤ i % m) ∧ (i % m < m) := ⟨Int.emod_nonneg _ (by omega), Int.emod_lt_of_pos _ h⟩
abbrev sc (ns : List Int) : Dt := .lsk (ns.map .int)
theorem ev_cell (ns : List Int) (k : Int) (s : Sto) (hk : 0 ≤ k) : m_law_cell [sc ns, .int k] s = .ok (.int (cell ns k)) s := by
  by_cases h : ns = []
  · subst h
    simp [m_law_cell, b_law_cell, fnOf, cell]
  · have hl : 0 < ns.length := List.length_pos_iff.mpr h
    have hm : (0 : Int) < ns.length := by omega
    obtain ⟨h1, h2⟩ := mod_ok hm k
    obtain ⟨j, hj⟩ : ∃ j : Nat, k % (ns.length : Int) = j := ⟨(k % (ns.length : Int)).toNat, by omega⟩
    have hj2 : j < ns.length := by omega
    have e : atI (ns.map Dt.int) (k % (ns.length : Int)) = some (.int (cell ns k)) := by
      rw [hj, atI_ofNat, List.getElem?_map, List.getElem?_eq_getElem hj2]
      simp [cell, h, hj, List.getElem?_eq_getElem hj2]
    have hm' : ¬ ns.isEmpty = true := by simpa using h
    simp [m_law_cell, b_law_cell, fnOf, h, hl, sc, e]
theorem ev_mix (ns : List Int) (k : Int) (s : Sto) (hk : 0 ≤ k) : m_law_mix [sc ns, .int k] s = .ok (.int (mix ns k)) s := by
  have h1 := mod_ok (m := 4294967291) (by decide) (cell ns k + 104729 * (k + 1))
  have h2 := mod_ok (m := 4294967279) (by decide) (mixA ns k ^ 5)
  have h3 : (mixA ns k).natAbs < 2 ^ 64 := by unfold mixA; omega
  have h5 : -(2 ^ 64) < mixB ns k / 64 ∧ mixB ns k / 64 < 2 ^ 64 := by unfold mixB; omega
  have e1 : m_law_cell [sc ns, .int k] s = .ok (.int (cell ns k)) s := ev_cell ns k s hk
  have e2 : decide ((-(2 ^ 64) < (104729 : Int) ∧ (104729 : Int) < 2 ^ 64) ∨ (-(2 ^ 64) < (k + 1) ∧ (k + 1) < 2 ^ 64)) = true := decide_eq_true (.inl (by decide))
  have e3 : decide ((0 : Int) ≤ 5 ∧ (5 : Int) ≤ 1000000 ∧ (mixA ns k).natAbs < 2 ^ 64) = true := decide_eq_true ⟨by decide, by decide, h3⟩
  have e4 : decide ((-(2 ^ 64) < mixB ns k / 64 ∧ mixB ns k / 64 < 2 ^ 64) ∨ (-(2 ^ 64) < (69621 : Int) ∧ (69621 : Int) < 2 ^ 64)) = true := decide_eq_true (.inl h5)
  have e5 : decide (0 < (64 : Int) ∧ (64 : Int) < 1073741824) = true := by decide
  have f1 : (cell ns k + 104729 * (k + 1)) % 4294967291 = mixA ns k := rfl
  have f2 : mixA ns k ^ (5 : Int).toNat % 4294967279 = mixB ns k := rfl
  have f3 : (mixB ns k / 64 * 69621 + mixB ns k) % 4294967231 = mix ns k := rfl
  have g1 : decide ((0 : Int) < 4294967291) = true := by decide
  have g2 : decide ((0 : Int) < 4294967279) = true := by decide
  have g3 : decide ((0 : Int) < 4294967231) = true := by decide
  unfold m_law_mix b_law_mix
  simp only [ev0R, Nat.reduceAdd, Nat.reduceSub, e1, e2, f1, e3, f2, e5, e4, f3, g1, g2, g3]
theorem ev_draw (ns : List Int) {t N : Nat} {many : Int} {R : List SP} {s : Sto} (o : Own (Tw t N :: R) s) (hN : N < 900000) (hm : 0 < many) :
    ∃ v : Nat, (v : Int) < many ∧ ∃ s', m_law_draw [sc ns, .obj t, .int many] s = .ok (.int v) s' ∧ Own (Tw t (N + 1) :: R) s' := by
  obtain ⟨n, hn, o⟩ := own_tw.mp o
  have ht := o.get
  have h1 := isLst_obj ht
  have h2 := dApp_at (y := .int 0) ht (by rw [List.length_replicate]; omega)
  rw [zeros_app] at h2
  have o2 := o.set (zs (n + 1))
  have h3 : dLen (.obj t) (s.set t (zs (n + 1))) = .ok (.int ((n + 1 : Nat) : Int)) (s.set t (zs (n + 1))) := by
    rw [dLen_obj (l := List.replicate (n + 1) (.int 0)) o2.get, List.length_replicate]
  have h4 := ev_mix ns ((n + 1 : Nat) : Int) (s.set t (zs (n + 1))) (Int.natCast_nonneg _)
  have f1 : mix ns ((n + 1 : Nat) : Int) / 8 % many = dr ns (n + 1) many := rfl
  have g1 : decide (0 < (8 : Int) ∧ (8 : Int) < 1073741824) = true := by decide
  have g2 : decide (0 < many) = true := decide_eq_true hm
  obtain ⟨v, hv⟩ : ∃ v : Nat, dr ns (n + 1) many = v := ⟨(dr ns (n + 1) many).toNat, by have := dr_nonneg ns (n + 1) hm; omega⟩
  refine ⟨v, by have := dr_lt ns (n + 1) hm; omega, _, ?_, own_tw.mpr ⟨n + 1, by omega, o2⟩⟩
  unfold m_law_draw b_law_draw
  simp only [ev0R, Nat.reduceAdd, Nat.reduceSub, h1, h2, h3, h4, f1, g1, g2, hv]
theorem ev_pickQ (ns : List Int) {t N : Nat} {d : Dt} {l : List Dt} {R : List SP} {s : Sto} (o : Own (Tw t N :: R) s) (hN : N < 900000) (hd : ∀ s', Own (Tw t (N + 1) :: R) s' → dLen d s = .ok (.int l.length) s ∧ ∀ i : Int, dIx d (.int i) s' = ofO s' (atI l i)) (hl : l ≠ []) :
    ∃ x ∈ l, ∃ s', m_law_pick [sc ns, .obj t, d] s = .ok x s' ∧ Own (Tw t (N + 1) :: R) s' := by
  have hl' : (0 : Int) < l.length := by have := List.length_pos_iff.mpr hl; omega
  obtain ⟨v, hv, s', h1, o'⟩ := ev_draw ns o hN hl'
  obtain ⟨h2, h3⟩ := hd s' o'
  have h3 := h3 v
  have hv : v < l.length := by omega
  rw [atI_ofNat, List.getElem?_eq_getElem hv] at h3
  refine ⟨l[v], List.getElem_mem hv, s', ?_, o'⟩
  unfold m_law_pick b_law_pick
  simp only [evR, Nat.reduceAdd, Nat.reduceSub, Int.reduceBEq, Int.reduceEq, Int.reduceLT, Int.reduceLE, Int.reduceNeg, Int.reduceAdd, Int.reduceSub, Int.reduceMul, Int.reduceToNat, Nat.reduceLT, Nat.reduceLeDiff, reduceIte, Int.reduceNe, Int.reduceBNe, String.reduceBEq, h2, h1, h3]
theorem ev_pick (ns : List Int) {t N : Nat} {l : List Dt} {R : List SP} {s : Sto} (o : Own (Tw t N :: R) s) (hN : N < 900000) (hl : l ≠ []) : ∃ x ∈ l, ∃ s', m_law_pick [sc ns, .obj t, .lst l] s = .ok x s' ∧ Own (Tw t (N + 1) :: R) s' :=
  ev_pickQ ns o hN (fun s' _ => ⟨rfl, fun i => rfl⟩) hl
theorem ev_look_wish (l : List Nat) (s : Sto) : m_look_wish [.str (mkS l)] s = if isWish l = true then .ok .non s else .exc 2 s := by
  obtain ⟨z, hz⟩ := splC_last_ne l
  have e3 : ∀ v : Dt, v = .lst (lvs (plain (splC 47 l))) → lcGo (gN 3) Pd.tYes (eOr (eOp dEq (eVar 3) (eC (.str (mkS [43])))) (eCall m_is_level [eVar 3])) (fun _ => True) (lvs (plain (splC 47 l))) [some (.str (mkS l)), some (.lst (lvs (splC 47 l))), some v, none] s = .ok ((plain (splC 47 l)).map fun p => .bl (gw p)) s := fun v _ =>
    by
      refine lc_map ?_ fun p _ => ⟨[some (.str (mkS l)), some (.lst (lvs (splC 47 l))), some v, some (.str (mkS p))], rfl, rfl, ?_⟩
      · trivial
      unfold gw
      cases hp : (p == [43]) with
      | true => simp only [evR, Nat.reduceAdd, Nat.reduceSub, Int.reduceBEq, Int.reduceEq, Int.reduceLT, Int.reduceLE, Int.reduceNeg, Int.reduceAdd, Int.reduceSub, Int.reduceMul, Int.reduceToNat, Nat.reduceLT, Nat.reduceLeDiff, reduceIte, Int.reduceNe, Int.reduceBNe, String.reduceBEq, ev_is_level, mkS_beq, hp]
      | false => simp only [evR, Nat.reduceAdd, Nat.reduceSub, Int.reduceBEq, Int.reduceEq, Int.reduceLT, Int.reduceLE, Int.reduceNeg, Int.reduceAdd, Int.reduceSub, Int.reduceMul, Int.reduceToNat, Nat.reduceLT, Nat.reduceLeDiff, reduceIte, Int.reduceNe, Int.reduceBNe, String.reduceBEq, ev_is_level, mkS_beq, hp]
  have e4 := e3 _ rfl
  have hl : ((splC 47 l).map fun l => Dt.str (mkS l)).getLast? = some (.str (mkS z)) := by rw [List.getLast?_map, hz]; rfl
  have e5 : (eIf (tBl (eOp dEq (eOp dIx (eVar 1) (eUn dNeg (eC (.int 1)))) (eC (.str (mkS [35]))))) (eSl nwF (eVar 1) none (some (eUn dNeg (eC (.int 1))))) (eVar 1)) [some (.str (mkS l)), some (.lst (lvs (splC 47 l))), none, none] s = .ok (.lst (lvs (plain (splC 47 l)))) s := by
    by_cases hh : z = [35]
    · have hb : (z == [35]) = true := by simpa using hh
      have hp : plain (splC 47 l) = (splC 47 l).dropLast := by unfold plain; rw [hz, hh, if_pos rfl]
      simp only [evR, Nat.reduceAdd, Nat.reduceSub, Int.reduceBEq, Int.reduceEq, Int.reduceLT, Int.reduceLE, Int.reduceNeg, Int.reduceAdd, Int.reduceSub, Int.reduceMul, Int.reduceToNat, Nat.reduceLT, Nat.reduceLeDiff, reduceIte, Int.reduceNe, Int.reduceBNe, String.reduceBEq, hl, mkS_beq, hb, ev_sl, evp_none, evp_some, dSl_lst, cut_init, hp, List.map_dropLast]
    · have hb : (z == [35]) = false := by simpa using hh
      have hp : plain (splC 47 l) = splC 47 l := by unfold plain; rw [hz, if_neg (fun h => hh (Option.some.inj h))]
      simp only [evR, Nat.reduceAdd, Nat.reduceSub, Int.reduceBEq, Int.reduceEq, Int.reduceLT, Int.reduceLE, Int.reduceNeg, Int.reduceAdd, Int.reduceSub, Int.reduceMul, Int.reduceToNat, Nat.reduceLT, Nat.reduceLeDiff, reduceIte, Int.reduceNe, Int.reduceBNe, String.reduceBEq, hl, mkS_beq, hb, hp]
  unfold m_look_wish b_look_wish
  by_cases h1 : (l == []) = true
  · have hn : isWish l = false := by unfold isWish; rw [h1]; rfl
    simp only [ev_ifE] at e5
    simp only [evR, Nat.reduceAdd, Nat.reduceSub, Int.reduceBEq, Int.reduceEq, Int.reduceLT, Int.reduceLE, Int.reduceNeg, Int.reduceAdd, Int.reduceSub, Int.reduceMul, Int.reduceToNat, Nat.reduceLT, Nat.reduceLeDiff, reduceIte, Int.reduceNe, Int.reduceBNe, String.reduceBEq, t_slash, t_hash, t_plus, t_nil, isStr_str, dSplit_mk] at e5
    simp only [evR, Nat.reduceAdd, Nat.reduceSub, Int.reduceBEq, Int.reduceEq, Int.reduceLT, Int.reduceLE, Int.reduceNeg, Int.reduceAdd, Int.reduceSub, Int.reduceMul, Int.reduceToNat, Nat.reduceLT, Nat.reduceLeDiff, reduceIte, Int.reduceNe, Int.reduceBNe, String.reduceBEq, t_slash, t_hash, t_plus, t_nil, isStr_str, dSplit_mk, e5, mkS_beq, h1, ev_raise, hn]
  · have h1' : (l == []) = false := by simpa using h1
    simp only [ev_ifE] at e5
    simp only [evR, Nat.reduceAdd, Nat.reduceSub, Int.reduceBEq, Int.reduceEq, Int.reduceLT, Int.reduceLE, Int.reduceNeg, Int.reduceAdd, Int.reduceSub, Int.reduceMul, Int.reduceToNat, Nat.reduceLT, Nat.reduceLeDiff, reduceIte, Int.reduceNe, Int.reduceBNe, String.reduceBEq, t_slash, t_hash, t_plus, t_nil, isStr_str, dSplit_mk] at e5
    by_cases h2 : (splC 47 l).length ≤ 8
    · have g2 : ¬ ((8 : Int) < (splC 47 l).length) := by omega
      have hn : isWish l = (plain (splC 47 l)).all gw := by unfold isWish; rw [h1', decide_eq_true h2]; rfl
      cases hq : (plain (splC 47 l)).all gw with
      | true => simp only [evR, Nat.reduceAdd, Nat.reduceSub, Int.reduceBEq, Int.reduceEq, Int.reduceLT, Int.reduceLE, Int.reduceNeg, Int.reduceAdd, Int.reduceSub, Int.reduceMul, Int.reduceToNat, Nat.reduceLT, Nat.reduceLeDiff, reduceIte, Int.reduceNe, Int.reduceBNe, String.reduceBEq, t_slash, t_hash, t_plus, t_nil, isStr_str, dSplit_mk, e5, mkS_beq, h1', dGt, List.length_map, g2, ev_lc, ev_iSeq, wipeD_nil, wipeD_cons, bndN, e4, dAll_map, hq, ev_raise, hn]
      | false => simp only [evR, Nat.reduceAdd, Nat.reduceSub, Int.reduceBEq, Int.reduceEq, Int.reduceLT, Int.reduceLE, Int.reduceNeg, Int.reduceAdd, Int.reduceSub, Int.reduceMul, Int.reduceToNat, Nat.reduceLT, Nat.reduceLeDiff, reduceIte, Int.reduceNe, Int.reduceBNe, String.reduceBEq, t_slash, t_hash, t_plus, t_nil, isStr_str, dSplit_mk, e5, mkS_beq, h1', dGt, List.length_map, g2, ev_lc, ev_iSeq, wipeD_nil, wipeD_cons, bndN, e4, dAll_map, hq, ev_raise, hn]
    · have g2 : (8 : Int) < (splC 47 l).length := by omega
      have hn : isWish l = false := by unfold isWish; rw [h1', decide_eq_false h2]; rfl
      simp only [evR, Nat.reduceAdd, Nat.reduceSub, Int.reduceBEq, Int.reduceEq, Int.reduceLT, Int.reduceLE, Int.reduceNeg, Int.reduceAdd, Int.reduceSub, Int.reduceMul, Int.reduceToNat, Nat.reduceLT, Nat.reduceLeDiff, reduceIte, Int.reduceNe, Int.reduceBNe, String.reduceBEq, t_slash, t_hash, t_plus, t_nil, isStr_str, dSplit_mk, e5, mkS_beq, h1', dGt, List.length_map, g2, ev_raise, hn]
/-! ### fits -/
/-! ### hearers -/
abbrev smalls : List Nat := [97, 98, 99, 100, 101, 102, 103, 104, 105, 106, 107, 108, 109, 110, 111, 112, 113, 114, 115, 116, 117, 118, 119, 120, 121, 122, 48, 49, 50, 51, 52, 53, 54, 55, 56, 57]
theorem t_small : Str.ofString "abcdefghijklmnopqrstuvwxyz0123456789" = mkS smalls := by decide +kernel
def isHearer (l : List Nat) : Bool := decide (1 ≤ l.length ∧ l.length ≤ 12) && l.all fun c => decide (c ∈ smalls)
theorem ev_look_hearer (l : List Nat) (s : Sto) : m_look_hearer [.str (mkS l)] s = if isHearer l = true then .ok .non s else .exc 2 s := by
  have e3 : lcGo (gN 1) Pd.tYes (eOp dIn (eVar 1) (eC (.str (mkS smalls)))) (fun _ => True) (l.map fun c => .str (mkS [c])) [some (.str (mkS l)), none] s = .ok (l.map fun c => .bl (decide (c ∈ smalls))) s := by
    refine lc_map trivial fun c _ => ⟨[some (.str (mkS l)), some (.str (mkS [c]))], rfl, rfl, ?_⟩
    simp only [evR, Nat.reduceAdd, Nat.reduceSub, Int.reduceBEq, Int.reduceEq, Int.reduceLT, Int.reduceLE, Int.reduceNeg, Int.reduceAdd, Int.reduceSub, Int.reduceMul, Int.reduceToNat, Nat.reduceLT, Nat.reduceLeDiff, reduceIte, Int.reduceNe, Int.reduceBNe, String.reduceBEq, dIn_sign]
  unfold m_look_hearer b_look_hearer
  by_cases h1 : (1 : Int) ≤ l.length
  · by_cases h2 : (l.length : Int) ≤ 12
    · have hn : isHearer l = l.all fun c => decide (c ∈ smalls) := by
        unfold isHearer
        rw [decide_eq_true (show 1 ≤ l.length ∧ l.length ≤ 12 by omega), Bool.true_and]
      cases hq : (l.all fun c => decide (c ∈ smalls)) with
      | true => simp only [evR, Nat.reduceAdd, Nat.reduceSub, Int.reduceBEq, Int.reduceEq, Int.reduceLT, Int.reduceLE, Int.reduceNeg, Int.reduceAdd, Int.reduceSub, Int.reduceMul, Int.reduceToNat, Nat.reduceLT, Nat.reduceLeDiff, reduceIte, Int.reduceNe, Int.reduceBNe, String.reduceBEq, mkS_len, dLe, h1, h2, t_small, ev_lc, ev_iSeq, signs_mk, wipeD_nil, wipeD_cons, bndN, e3, dAll_map, hq, ev_raise, hn]
      | false => simp only [evR, Nat.reduceAdd, Nat.reduceSub, Int.reduceBEq, Int.reduceEq, Int.reduceLT, Int.reduceLE, Int.reduceNeg, Int.reduceAdd, Int.reduceSub, Int.reduceMul, Int.reduceToNat, Nat.reduceLT, Nat.reduceLeDiff, reduceIte, Int.reduceNe, Int.reduceBNe, String.reduceBEq, mkS_len, dLe, h1, h2, t_small, ev_lc, ev_iSeq, signs_mk, wipeD_nil, wipeD_cons, bndN, e3, dAll_map, hq, ev_raise, hn]
    · have hn : isHearer l = false := by
        unfold isHearer
        rw [decide_eq_false (show ¬ (1 ≤ l.length ∧ l.length ≤ 12) by omega), Bool.false_and]
      simp only [evR, Nat.reduceAdd, Nat.reduceSub, Int.reduceBEq, Int.reduceEq, Int.reduceLT, Int.reduceLE, Int.reduceNeg, Int.reduceAdd, Int.reduceSub, Int.reduceMul, Int.reduceToNat, Nat.reduceLT, Nat.reduceLeDiff, reduceIte, Int.reduceNe, Int.reduceBNe, String.reduceBEq, mkS_len, dLe, h1, h2, ev_raise, hn]
  · have hn : isHearer l = false := by
      unfold isHearer
      rw [decide_eq_false (show ¬ (1 ≤ l.length ∧ l.length ≤ 12) by omega), Bool.false_and]
    simp only [evR, Nat.reduceAdd, Nat.reduceSub, Int.reduceBEq, Int.reduceEq, Int.reduceLT, Int.reduceLE, Int.reduceNeg, Int.reduceAdd, Int.reduceSub, Int.reduceMul, Int.reduceToNat, Nat.reduceLT, Nat.reduceLeDiff, reduceIte, Int.reduceNe, Int.reduceBNe, String.reduceBEq, mkS_len, dLe, h1, ev_raise, hn]
/-! ### tidings -/
structure Td where
  nm : Dt
  bd : Dt
  g : Int
  kp : Dt
def Td.d (t : Td) : Dt := .tup [t.nm, t.bd, .int t.g, t.kp]
def sayD (t : Td) (ag : Bool) (n : Int) : Dt := .tup [.str (Str.ofString "say"), t.nm, t.bd, .int t.g, t.kp, .bl ag, .int n]
/-! ### tidings looked at -/
def bsgn (c : Nat) : Bool := 32 ≤ c && c < 127 && c != 37
def isBody (l : List Nat) : Bool := decide (l.length ≤ 300) && l.all bsgn
theorem ev_look_grade (g : Int) (s : Sto) : m_look_grade [.int g] s = if 0 ≤ g ∧ g ≤ 2 then .ok .non s else .exc 2 s := by
  unfold m_look_grade b_look_grade
  by_cases h1 : 0 ≤ g
  · by_cases h2 : g ≤ 2
    · simp only [evR, Nat.reduceAdd, Nat.reduceSub, Int.reduceBEq, Int.reduceEq, Int.reduceLT, Int.reduceLE, Int.reduceNeg, Int.reduceAdd, Int.reduceSub, Int.reduceMul, Int.reduceToNat, Nat.reduceLT, Nat.reduceLeDiff, reduceIte, Int.reduceNe, Int.reduceBNe, String.reduceBEq, h1, h2, ev_raise]
    · simp only [evR, Nat.reduceAdd, Nat.reduceSub, Int.reduceBEq, Int.reduceEq, Int.reduceLT, Int.reduceLE, Int.reduceNeg, Int.reduceAdd, Int.reduceSub, Int.reduceMul, Int.reduceToNat, Nat.reduceLT, Nat.reduceLeDiff, reduceIte, Int.reduceNe, Int.reduceBNe, String.reduceBEq, h1, h2, ev_raise]
  · simp only [evR, Nat.reduceAdd, Nat.reduceSub, Int.reduceBEq, Int.reduceEq, Int.reduceLT, Int.reduceLE, Int.reduceNeg, Int.reduceAdd, Int.reduceSub, Int.reduceMul, Int.reduceToNat, Nat.reduceLT, Nat.reduceLeDiff, reduceIte, Int.reduceNe, Int.reduceBNe, String.reduceBEq, h1, ev_raise]
theorem ev_must (b : Bool) (s : Sto) : m_must [.bl b] s = if b = true then .ok .non s else .exc 3 s := by
  unfold m_must b_must
  cases b
  · simp only [evR, Nat.reduceAdd, Nat.reduceSub, Int.reduceBEq, Int.reduceEq, Int.reduceLT, Int.reduceLE, Int.reduceNeg, Int.reduceAdd, Int.reduceSub, Int.reduceMul, Int.reduceToNat, Nat.reduceLT, Nat.reduceLeDiff, reduceIte, Int.reduceNe, Int.reduceBNe, String.reduceBEq, ev_raise]
  · simp only [evR, Nat.reduceAdd, Nat.reduceSub, Int.reduceBEq, Int.reduceEq, Int.reduceLT, Int.reduceLE, Int.reduceNeg, Int.reduceAdd, Int.reduceSub, Int.reduceMul, Int.reduceToNat, Nat.reduceLT, Nat.reduceLeDiff, reduceIte, Int.reduceNe, Int.reduceBNe, String.reduceBEq, ev_raise]
theorem ev_bsgn {l : List Nat} {c : Nat} {s : Sto} : eAnd (eChain dLe dLt (eC (.int 32)) (eUn dOrd (eVar 1)) (eC (.int 127))) (eOp dNe (eUn dOrd (eVar 1)) (eC (.int 37))) [some (.str (mkS l)), some (.str (mkS [c]))] s = .ok (.bl (bsgn c)) s := by
  unfold bsgn
  by_cases h1 : 32 ≤ c
  · have g1 : (32 : Int) ≤ c := by omega
    by_cases h2 : c < 127
    · have g2 : (c : Int) < 127 := by omega
      have g3 : ((c : Int) == 37) = (c == 37) := by
        rw [Bool.eq_iff_iff]; simp only [beq_iff_eq]; omega
      simp only [evR, Nat.reduceAdd, Nat.reduceSub, Int.reduceBEq, Int.reduceEq, Int.reduceLT, Int.reduceLE, Int.reduceNeg, Int.reduceAdd, Int.reduceSub, Int.reduceMul, Int.reduceToNat, Nat.reduceLT, Nat.reduceLeDiff, reduceIte, Int.reduceNe, Int.reduceBNe, String.reduceBEq, dOrd_mk, g1, g2, h1, h2, g3]
      first | rfl | simp [bne]
    · have g2 : ¬ (c : Int) < 127 := by omega
      simp only [evR, Nat.reduceAdd, Nat.reduceSub, Int.reduceBEq, Int.reduceEq, Int.reduceLT, Int.reduceLE, Int.reduceNeg, Int.reduceAdd, Int.reduceSub, Int.reduceMul, Int.reduceToNat, Nat.reduceLT, Nat.reduceLeDiff, reduceIte, Int.reduceNe, Int.reduceBNe, String.reduceBEq, dOrd_mk, g1, g2, h1, h2]
  · have g1 : ¬ (32 : Int) ≤ c := by omega
    simp only [evR, Nat.reduceAdd, Nat.reduceSub, Int.reduceBEq, Int.reduceEq, Int.reduceLT, Int.reduceLE, Int.reduceNeg, Int.reduceAdd, Int.reduceSub, Int.reduceMul, Int.reduceToNat, Nat.reduceLT, Nat.reduceLeDiff, reduceIte, Int.reduceNe, Int.reduceBNe, String.reduceBEq, dOrd_mk, g1, h1]
theorem ev_is_body (l : List Nat) (s : Sto) : m_is_body [.str (mkS l)] s = .ok (.bl (isBody l)) s := by
  have e3 : lcGo (gN 1) Pd.tYes (eAnd (eChain dLe dLt (eC (.int 32)) (eUn dOrd (eVar 1)) (eC (.int 127))) (eOp dNe (eUn dOrd (eVar 1)) (eC (.int 37)))) (fun _ => True) (l.map fun c => .str (mkS [c])) [some (.str (mkS l)), none] s = .ok (l.map fun c => .bl (bsgn c)) s :=
    lc_map trivial fun c _ => ⟨[some (.str (mkS l)), some (.str (mkS [c]))], rfl, rfl, ev_bsgn⟩
  unfold m_is_body b_is_body isBody
  by_cases h : l.length ≤ 300
  · have g1 : (l.length : Int) ≤ 300 := by omega
    simp only [evR, Nat.reduceAdd, Nat.reduceSub, Int.reduceBEq, Int.reduceEq, Int.reduceLT, Int.reduceLE, Int.reduceNeg, Int.reduceAdd, Int.reduceSub, Int.reduceMul, Int.reduceToNat, Nat.reduceLT, Nat.reduceLeDiff, reduceIte, Int.reduceNe, Int.reduceBNe, String.reduceBEq, mkS_len, g1, ev_lc, ev_iSeq, signs_mk, wipeD_nil, wipeD_cons, bndN, e3, dAll_map, h]
  · have g1 : ¬ (l.length : Int) ≤ 300 := by omega
    simp only [evR, Nat.reduceAdd, Nat.reduceSub, Int.reduceBEq, Int.reduceEq, Int.reduceLT, Int.reduceLE, Int.reduceNeg, Int.reduceAdd, Int.reduceSub, Int.reduceMul, Int.reduceToNat, Nat.reduceLT, Nat.reduceLeDiff, reduceIte, Int.reduceNe, Int.reduceBNe, String.reduceBEq, mkS_len, g1, h]
theorem dIn_tf {b : Bool} {s : Sto} : dIn (.bl b) (.tup [.bl true, .bl false]) s = .ok (.bl true) s := by
  cases b <;> rfl
theorem ev_look_tiding (n b : List Nat) (g : Int) (k : Bool) (s : Sto) : m_look_tiding [.str (mkS n), .str (mkS b), .int g, .bl k] s =
    if isName n = true then if 0 ≤ g ∧ g ≤ 2 then if isBody b = true then .ok .non s else .exc 3 s else .exc 2 s else .exc 2 s := by
  unfold m_look_tiding b_look_tiding
  by_cases h1 : isName n = true
  · by_cases h2 : 0 ≤ g ∧ g ≤ 2
    · cases h3 : isBody b
      · simp only [evR, Nat.reduceAdd, Nat.reduceSub, Int.reduceBEq, Int.reduceEq, Int.reduceLT, Int.reduceLE, Int.reduceNeg, Int.reduceAdd, Int.reduceSub, Int.reduceMul, Int.reduceToNat, Nat.reduceLT, Nat.reduceLeDiff, reduceIte, Int.reduceNe, Int.reduceBNe, String.reduceBEq, ev_look_name, h1, ev_look_grade, h2, ev_is_body, h3, dIn_tf, ev_must]
      · simp only [evR, Nat.reduceAdd, Nat.reduceSub, Int.reduceBEq, Int.reduceEq, Int.reduceLT, Int.reduceLE, Int.reduceNeg, Int.reduceAdd, Int.reduceSub, Int.reduceMul, Int.reduceToNat, Nat.reduceLT, Nat.reduceLeDiff, reduceIte, Int.reduceNe, Int.reduceBNe, String.reduceBEq, ev_look_name, h1, ev_look_grade, h2, ev_is_body, h3, dIn_tf, ev_must]
    · simp only [evR, Nat.reduceAdd, Nat.reduceSub, Int.reduceBEq, Int.reduceEq, Int.reduceLT, Int.reduceLE, Int.reduceNeg, Int.reduceAdd, Int.reduceSub, Int.reduceMul, Int.reduceToNat, Nat.reduceLT, Nat.reduceLeDiff, reduceIte, Int.reduceNe, Int.reduceBNe, String.reduceBEq, ev_look_name, h1, ev_look_grade, h2]
  · simp only [evR, Nat.reduceAdd, Nat.reduceSub, Int.reduceBEq, Int.reduceEq, Int.reduceLT, Int.reduceLE, Int.reduceNeg, Int.reduceAdd, Int.reduceSub, Int.reduceMul, Int.reduceToNat, Nat.reduceLT, Nat.reduceLeDiff, reduceIte, Int.reduceNe, Int.reduceBNe, String.reduceBEq, ev_look_name, h1]
/-- a tiding that is one -/
def Td.Good (t : Td) : Prop := ∃ n b k, t = ⟨.str (mkS n), .str (mkS b), t.g, .bl k⟩ ∧ isName n = true ∧ isBody b = true ∧ 0 ≤ t.g ∧ t.g ≤ 2
theorem Td.Good.look {t : Td} (h : t.Good) (s : Sto) : m_look_tiding [t.nm, t.bd, .int t.g, t.kp] s = .ok .non s := by
  obtain ⟨n, b, k, e, h1, h2, h3, h4⟩ := h
  rw [e]
  simp only
  rw [ev_look_tiding, if_pos h1, if_pos ⟨h3, h4⟩, if_pos h2]
/-! ### packets that are looked at -/
abbrev wS (x : String) : Dt := .str (Str.ofString x)
inductive Pk where
  | con (h : List Nat) (c : Bool) (w : Option Td)
  | gre (b : Bool)
  | say (t : Td) (ag : Bool) (i : Int)
  | one (w : String) (i : Int)
  | hea (i : Int) (l : List (List Nat × Int))
  | hrd (i : Int) (l : List Int)
  | drp (i : Int) (l : List (List Nat))
  | nul (w : String)
def optT : Option Td → Dt
  | none => .non
  | some t => t.d
def heaD (e : List Nat × Int) : Dt := .tup [.str (mkS e.1), .int e.2]
def Pk.d : Pk → Dt
  | .con h c w => .tup [wS "connect", .str (mkS h), .bl c, optT w]
  | .gre b => .tup [wS "greeted", .bl b]
  | .say t ag i => sayD t ag i
  | .one w i => .tup [wS w, .int i]
  | .hea i l => .tup [wS "hear", .int i, .tup (l.map heaD)]
  | .hrd i l => .tup [wS "heard", .int i, .tup (l.map Dt.int)]
  | .drp i l => .tup [wS "drop", .int i, .tup (l.map fun x => .str (mkS x))]
  | .nul w => .tup [wS w]
def idOk (i : Int) : Bool := decide (1 ≤ i) && decide (i ≤ 65535)
theorem idOk_iff {i : Int} : idOk i = true ↔ 1 ≤ i ∧ i ≤ 65535 := by unfold idOk; simp
def Pk.Ok : Pk → Prop
  | .con h c w => isHearer h = true ∧ ∀ t, w = some t → t.Good
  | .gre b => True
  | .say t ag i => t.Good ∧ if 0 < t.g then idOk i = true else i = 0 ∧ ag = false
  | .one w i => (w = "got" ∨ w = "held" ∨ w = "free" ∨ w = "done" ∨ w = "dropped") ∧ idOk i = true
  | .hea i l => idOk i = true ∧ (1 ≤ l.length ∧ l.length ≤ 10) ∧ ∀ e ∈ l, isWish e.1 = true ∧ 0 ≤ e.2 ∧ e.2 ≤ 2
  | .hrd i l => idOk i = true ∧ (1 ≤ l.length ∧ l.length ≤ 10) ∧ ∀ e ∈ l, e = 0 ∨ e = 1 ∨ e = 2 ∨ e = 128
  | .drp i l => idOk i = true ∧ (1 ≤ l.length ∧ l.length ≤ 10) ∧ ∀ e ∈ l, isWish e = true
  | .nul w => w = "ping" ∨ w = "pong" ∨ w = "leave"
theorem ev_is_id (i : Int) (s : Sto) : m_is_id [.int i] s = .ok (.bl (idOk i)) s := by
  unfold m_is_id b_is_id idOk
  by_cases h1 : 1 ≤ i
  · by_cases h2 : i ≤ 65535
    · simp only [runR, Nat.reduceAdd, Nat.reduceSub, Int.reduceBEq, Int.reduceEq, Int.reduceLT, Int.reduceLE, Int.reduceNeg, Int.reduceAdd, Int.reduceSub, Int.reduceMul, Int.reduceToNat, Nat.reduceLT, Nat.reduceLeDiff, reduceIte, Int.reduceNe, Int.reduceBNe, String.reduceBEq, dLe, h1, h2]
    · simp only [runR, Nat.reduceAdd, Nat.reduceSub, Int.reduceBEq, Int.reduceEq, Int.reduceLT, Int.reduceLE, Int.reduceNeg, Int.reduceAdd, Int.reduceSub, Int.reduceMul, Int.reduceToNat, Nat.reduceLT, Nat.reduceLeDiff, reduceIte, Int.reduceNe, Int.reduceBNe, String.reduceBEq, dLe, h1, h2]
  · simp only [runR, Nat.reduceAdd, Nat.reduceSub, Int.reduceBEq, Int.reduceEq, Int.reduceLT, Int.reduceLE, Int.reduceNeg, Int.reduceAdd, Int.reduceSub, Int.reduceMul, Int.reduceToNat, Nat.reduceLT, Nat.reduceLeDiff, reduceIte, Int.reduceNe, Int.reduceBNe, String.reduceBEq, dLe, h1]
theorem ev_some {wd : String} {i : Int} {α : Type} {l : List α} {f : α → Dt} {s : Sto} (hi : idOk i = true) (hl : 1 ≤ l.length ∧ l.length ≤ 10) (h : ∀ a ∈ l, ∀ p : Dt, p = .tup [wS wd, .int i, .tup (l.map f)] → l_look_some_1 [some p, some (f a)] s = .fl (.nx [some p, some (f a)]) s) : m_look_some [.tup [wS wd, .int i, .tup (l.map f)]] s = .ok .non s := by
  suffices k : WO (m_look_some [.tup [wS wd, .int i, .tup (l.map f)]] s) (fun d s' => d = .non ∧ s' = s) noX by
    obtain ⟨d, s', e, rfl, rfl⟩ := wo_iff k
    exact e
  unfold m_look_some b_look_some
  refine wf_fn ?_
  have h1 : (1 : Int) ≤ (l.length : Int) := by omega
  have h2 : (l.length : Int) ≤ 10 := by omega
  refine ws_step (by unfold u_look_some_1; simp only [runR, Nat.reduceAdd, Nat.reduceSub, Int.reduceBEq, Int.reduceEq, Int.reduceLT, Int.reduceLE, Int.reduceNeg, Int.reduceAdd, Int.reduceSub, Int.reduceMul, Int.reduceToNat, Nat.reduceLT, Nat.reduceLeDiff, reduceIte, Int.reduceNe, Int.reduceBNe, String.reduceBEq, ev_is_id, hi, dLe, h1, h2, ev_must] <;> exact rfl) ?_
  unfold u_look_some_2
  refine ws_for (f := f) [1] (fun _ _ s' => s' = s) (l := l) (ok := fun _ => True) (s0 := s) (by simp only [runR, Nat.reduceAdd, Nat.reduceSub, Int.reduceBEq, Int.reduceEq, Int.reduceLT, Int.reduceLE, Int.reduceNeg, Int.reduceAdd, Int.reduceSub, Int.reduceMul, Int.reduceToNat, Nat.reduceLT, Nat.reduceLeDiff, reduceIte, Int.reduceNe, Int.reduceBNe, String.reduceBEq] <;> exact rfl) rfl rfl ?_ ?_
  · rintro pre a post xs s' hall hx rfl
    obtain ⟨x, rfl⟩ := len1 hx
    refine ⟨trivial, _, rfl, ?_⟩
    have := h a (by rw [hall]; simp) _ rfl
    exact ws_nx this ⟨[_], rfl, rfl, rfl⟩
  · rintro xs s' hx rfl
    exact ⟨trivial, rfl, rfl⟩
theorem look_ok {p : Pk} (h : p.Ok) (s : Sto) : m_look_packet [p.d] s = .ok .non s := by
  suffices k : m_look_whole [p.d] s = .ok .non s by
    unfold m_look_packet b_look_packet
    rw [fnOf]
    unfold sTryR
    simp only [evR, Nat.reduceAdd, Nat.reduceSub, Int.reduceBEq, Int.reduceEq, Int.reduceLT, Int.reduceLE, Int.reduceNeg, Int.reduceAdd, Int.reduceSub, Int.reduceMul, Int.reduceToNat, Nat.reduceLT, Nat.reduceLeDiff, reduceIte, Int.reduceNe, Int.reduceBNe, String.reduceBEq, k]
  cases p with
  | con hh c w =>
    obtain ⟨h1, h2⟩ := h
    cases w with
    | none =>
      unfold m_look_whole b_look_whole u_look_whole_1 u_look_whole_2 u_look_whole_3 Pk.d optT
      simp only [runR, Nat.reduceAdd, Nat.reduceSub, Int.reduceBEq, Int.reduceEq, Int.reduceLT, Int.reduceLE, Int.reduceNeg, Int.reduceAdd, Int.reduceSub, Int.reduceMul, Int.reduceToNat, Nat.reduceLT, Nat.reduceLeDiff, reduceIte, Int.reduceNe, Int.reduceBNe, String.reduceBEq, eKget2, List.lookup_cons, List.lookup_nil, Option.getD_some, dGt, ev_must, ev_look_hearer, h1, dIn_tf]
    | some t =>
      have h3 := (h2 t rfl).look s
      unfold m_look_whole b_look_whole u_look_whole_1 u_look_whole_2 u_look_whole_3 Pk.d optT Td.d
      simp only [runR, Nat.reduceAdd, Nat.reduceSub, Int.reduceBEq, Int.reduceEq, Int.reduceLT, Int.reduceLE, Int.reduceNeg, Int.reduceAdd, Int.reduceSub, Int.reduceMul, Int.reduceToNat, Nat.reduceLT, Nat.reduceLeDiff, reduceIte, Int.reduceNe, Int.reduceBNe, String.reduceBEq, eKget2, List.lookup_cons, List.lookup_nil, Option.getD_some, dGt, ev_must, ev_look_hearer, h1, dIn_tf, h3]
  | gre b =>
    unfold m_look_whole b_look_whole u_look_whole_1 u_look_whole_2 u_look_whole_3 Pk.d
    simp only [runR, Nat.reduceAdd, Nat.reduceSub, Int.reduceBEq, Int.reduceEq, Int.reduceLT, Int.reduceLE, Int.reduceNeg, Int.reduceAdd, Int.reduceSub, Int.reduceMul, Int.reduceToNat, Nat.reduceLT, Nat.reduceLeDiff, reduceIte, Int.reduceNe, Int.reduceBNe, String.reduceBEq, eKget2, List.lookup_cons, List.lookup_nil, Option.getD_some, dGt, ev_must, dIn_tf]
  | say t ag i =>
    obtain ⟨h1, h2⟩ := h
    have h3 := h1.look s
    have h4 : m_look_say [sayD t ag i] s = .ok .non s := by
      unfold m_look_say b_look_say sayD
      by_cases h5 : 0 < t.g
      · rw [if_pos h5] at h2
        simp only [runR, Nat.reduceAdd, Nat.reduceSub, Int.reduceBEq, Int.reduceEq, Int.reduceLT, Int.reduceLE, Int.reduceNeg, Int.reduceAdd, Int.reduceSub, Int.reduceMul, Int.reduceToNat, Nat.reduceLT, Nat.reduceLeDiff, reduceIte, Int.reduceNe, Int.reduceBNe, String.reduceBEq, h3, dIn_tf, ev_must, dGt, h5, ev_is_id, h2]
      · rw [if_neg h5] at h2
        obtain ⟨rfl, rfl⟩ := h2
        simp only [runR, Nat.reduceAdd, Nat.reduceSub, Int.reduceBEq, Int.reduceEq, Int.reduceLT, Int.reduceLE, Int.reduceNeg, Int.reduceAdd, Int.reduceSub, Int.reduceMul, Int.reduceToNat, Nat.reduceLT, Nat.reduceLeDiff, reduceIte, Int.reduceNe, Int.reduceBNe, String.reduceBEq, h3, dIn_tf, ev_must, dGt, h5]
    unfold m_look_whole b_look_whole u_look_whole_1 u_look_whole_2 u_look_whole_3 Pk.d
    unfold sayD at h4 ⊢
    simp only [runR, Nat.reduceAdd, Nat.reduceSub, Int.reduceBEq, Int.reduceEq, Int.reduceLT, Int.reduceLE, Int.reduceNeg, Int.reduceAdd, Int.reduceSub, Int.reduceMul, Int.reduceToNat, Nat.reduceLT, Nat.reduceLeDiff, reduceIte, Int.reduceNe, Int.reduceBNe, String.reduceBEq, eKget2, List.lookup_cons, List.lookup_nil, Option.getD_some, dGt, ev_must, h4]
  | one w i =>
    obtain ⟨h1, h2⟩ := h
    unfold m_look_whole b_look_whole u_look_whole_1 u_look_whole_2 u_look_whole_3 Pk.d
    rcases h1 with e | e | e | e | e <;> subst e <;> simp only [runR, Nat.reduceAdd, Nat.reduceSub, Int.reduceBEq, Int.reduceEq, Int.reduceLT, Int.reduceLE, Int.reduceNeg, Int.reduceAdd, Int.reduceSub, Int.reduceMul, Int.reduceToNat, Nat.reduceLT, Nat.reduceLeDiff, reduceIte, Int.reduceNe, Int.reduceBNe, String.reduceBEq, eKget2, List.lookup_cons, List.lookup_nil, Option.getD_some, Option.getD_none, Option.map_none, dGt, ev_must, ev_is_id, h2]
  | hea i l =>
    obtain ⟨h1, h2, h3⟩ := h
    have h4 := ev_some (wd := "hear") (f := heaD) (s := s) h1 h2 fun a ha p e => by
      obtain ⟨k1, k2⟩ := h3 a ha
      subst e
      unfold l_look_some_1 heaD
      simp only [runR, Nat.reduceAdd, Nat.reduceSub, Int.reduceBEq, Int.reduceEq, Int.reduceLT, Int.reduceLE, Int.reduceNeg, Int.reduceAdd, Int.reduceSub, Int.reduceMul, Int.reduceToNat, Nat.reduceLT, Nat.reduceLeDiff, reduceIte, Int.reduceNe, Int.reduceBNe, String.reduceBEq, ev_must, ev_look_wish, k1, ev_look_grade, k2]
    unfold m_look_whole b_look_whole u_look_whole_1 u_look_whole_2 u_look_whole_3 Pk.d
    simp only [runR, Nat.reduceAdd, Nat.reduceSub, Int.reduceBEq, Int.reduceEq, Int.reduceLT, Int.reduceLE, Int.reduceNeg, Int.reduceAdd, Int.reduceSub, Int.reduceMul, Int.reduceToNat, Nat.reduceLT, Nat.reduceLeDiff, reduceIte, Int.reduceNe, Int.reduceBNe, String.reduceBEq, eKget2, List.lookup_cons, List.lookup_nil, Option.getD_some, dGt, ev_must, h4]
  | hrd i l =>
    obtain ⟨h1, h2, h3⟩ := h
    have h4 := ev_some (wd := "heard") (f := Dt.int) (s := s) h1 h2 fun a ha p e => by
      have k1 := h3 a ha
      have k2 : dIn (.int a) (.tup [.int 0, .int 1, .int 2, .int 128]) s = .ok (.bl true) s := by
        rw [show [Dt.int 0, .int 1, .int 2, .int 128] = [0, 1, 2, 128].map Dt.int from rfl, dIn_tints]
        rcases k1 with e | e | e | e <;> subst e <;> rfl
      subst e
      unfold l_look_some_1
      simp only [runR, Nat.reduceAdd, Nat.reduceSub, Int.reduceBEq, Int.reduceEq, Int.reduceLT, Int.reduceLE, Int.reduceNeg, Int.reduceAdd, Int.reduceSub, Int.reduceMul, Int.reduceToNat, Nat.reduceLT, Nat.reduceLeDiff, reduceIte, Int.reduceNe, Int.reduceBNe, String.reduceBEq, ev_must, k2]
    unfold m_look_whole b_look_whole u_look_whole_1 u_look_whole_2 u_look_whole_3 Pk.d
    simp only [runR, Nat.reduceAdd, Nat.reduceSub, Int.reduceBEq, Int.reduceEq, Int.reduceLT, Int.reduceLE, Int.reduceNeg, Int.reduceAdd, Int.reduceSub, Int.reduceMul, Int.reduceToNat, Nat.reduceLT, Nat.reduceLeDiff, reduceIte, Int.reduceNe, Int.reduceBNe, String.reduceBEq, eKget2, List.lookup_cons, List.lookup_nil, Option.getD_some, dGt, ev_must, h4]
  | drp i l =>
    obtain ⟨h1, h2, h3⟩ := h
    have h4 := ev_some (wd := "drop") (f := fun x => Dt.str (mkS x)) (s := s) h1 h2 fun a ha p e => by
      have k1 := h3 a ha
      subst e
      unfold l_look_some_1
      simp only [runR, Nat.reduceAdd, Nat.reduceSub, Int.reduceBEq, Int.reduceEq, Int.reduceLT, Int.reduceLE, Int.reduceNeg, Int.reduceAdd, Int.reduceSub, Int.reduceMul, Int.reduceToNat, Nat.reduceLT, Nat.reduceLeDiff, reduceIte, Int.reduceNe, Int.reduceBNe, String.reduceBEq, ev_must, ev_look_wish, k1]
    unfold m_look_whole b_look_whole u_look_whole_1 u_look_whole_2 u_look_whole_3 Pk.d
    simp only [runR, Nat.reduceAdd, Nat.reduceSub, Int.reduceBEq, Int.reduceEq, Int.reduceLT, Int.reduceLE, Int.reduceNeg, Int.reduceAdd, Int.reduceSub, Int.reduceMul, Int.reduceToNat, Nat.reduceLT, Nat.reduceLeDiff, reduceIte, Int.reduceNe, Int.reduceBNe, String.reduceBEq, eKget2, List.lookup_cons, List.lookup_nil, Option.getD_some, Option.getD_none, Option.map_none, dGt, ev_must, h4]
  | nul w =>
    unfold m_look_whole b_look_whole u_look_whole_1 u_look_whole_2 u_look_whole_3 Pk.d
    rcases h with e | e | e <;> subst e <;> simp only [runR, Nat.reduceAdd, Nat.reduceSub, Int.reduceBEq, Int.reduceEq, Int.reduceLT, Int.reduceLE, Int.reduceNeg, Int.reduceAdd, Int.reduceSub, Int.reduceMul, Int.reduceToNat, Nat.reduceLT, Nat.reduceLeDiff, reduceIte, Int.reduceNe, Int.reduceBNe, String.reduceBEq, eKget2, List.lookup_cons, List.lookup_nil, Option.getD_some, Option.getD_none, Option.map_none, dGt, ev_must]
end Tx
namespace Tx
open PySem L2 Pd
/-! ### bytes of a packet: the plain part -/
abbrev bys (l : List Nat) : List Dt := l.map fun n : Nat => .int (n : Int)
structure Tz where
  n : List Nat
  b : List Nat
  g : Nat
  k : Bool
def Tz.td (t : Tz) : Td := ⟨.str (mkS t.n), .str (mkS t.b), t.g, .bl t.k⟩
def kwords : List String := ["", "connect", "greeted", "say", "got", "held", "free", "done", "hear", "heard", "drop", "dropped", "ping", "pong", "leave"]
inductive Pz where
  | con (h : List Nat) (c : Bool) (w : Option Tz)
  | gre (b : Bool)
  | say (t : Tz) (ag : Bool) (i : Nat)
  | one (k : Nat) (i : Nat)
  | hea (i : Nat) (l : List (List Nat × Nat))
  | hrd (i : Nat) (l : List Nat)
  | drp (i : Nat) (l : List (List Nat))
  | nul (k : Nat)
def kw (k : Nat) : String := kwords.getD k ""
def Pz.pk : Pz → Pk
  | .con h c w => .con h c (w.map Tz.td)
  | .gre b => .gre b
  | .say t ag i => .say t.td ag i
  | .one k i => .one (kw k) i
  | .hea i l => .hea i (l.map fun e => (e.1, (e.2 : Int)))
  | .hrd i l => .hrd i (l.map fun n : Nat => (n : Int))
  | .drp i l => .drp i l
  | .nul k => .nul (kw k)
def Pz.d (p : Pz) : Dt := p.pk.d
def Pz.kind : Pz → Nat
  | .con .. => 1
  | .gre .. => 2
  | .say .. => 3
  | .one k _ => k
  | .hea .. => 8
  | .hrd .. => 9
  | .drp .. => 10
  | .nul k => k
def Tz.Ok (t : Tz) : Prop := isName t.n = true ∧ isBody t.b = true ∧ t.g ≤ 2
def idN (i : Nat) : Prop := 1 ≤ i ∧ i ≤ 65535
def Pz.Ok : Pz → Prop
  | .con h c w => isHearer h = true ∧ ∀ t, w = some t → t.Ok
  | .gre b => True
  | .say t ag i => t.Ok ∧ if 0 < t.g then idN i else i = 0 ∧ ag = false
  | .one k i => (k = 4 ∨ k = 5 ∨ k = 6 ∨ k = 7 ∨ k = 11) ∧ idN i
  | .hea i l => idN i ∧ (1 ≤ l.length ∧ l.length ≤ 10) ∧ ∀ e ∈ l, isWish e.1 = true ∧ e.2 ≤ 2
  | .hrd i l => idN i ∧ (1 ≤ l.length ∧ l.length ≤ 10) ∧ ∀ e ∈ l, e = 0 ∨ e = 1 ∨ e = 2 ∨ e = 128
  | .drp i l => idN i ∧ (1 ≤ l.length ∧ l.length ≤ 10) ∧ ∀ e ∈ l, isWish e = true
  | .nul k => k = 12 ∨ k = 13 ∨ k = 14
theorem Tz.Ok.td {t : Tz} (h : t.Ok) : t.td.Good := ⟨t.n, t.b, t.k, rfl, h.1, h.2.1, Int.natCast_nonneg _, by have := h.2.2; show (t.g : Int) ≤ 2; omega⟩
theorem idN_ok {i : Nat} (h : idN i) : idOk (i : Int) = true := by
  rw [idOk_iff]
  unfold idN at h
  omega
theorem Pz.Ok.pk {p : Pz} (h : p.Ok) : p.pk.Ok := by
  cases p with
  | con hh c w =>
    refine ⟨h.1, fun t e => ?_⟩
    cases w with
    | none => cases e
    | some z => cases e; exact (h.2 z rfl).td
  | gre b => trivial
  | say t ag i =>
    obtain ⟨h1, h2⟩ := h
    refine ⟨h1.td, ?_⟩
    show if (0 : Int) < (t.g : Int) then _ else _
    by_cases h3 : 0 < t.g
    · rw [if_pos h3] at h2
      rw [if_pos (by omega)]
      exact idN_ok h2
    · rw [if_neg h3] at h2
      rw [if_neg (by omega)]
      exact ⟨by rw [h2.1]; rfl, h2.2⟩
  | one k i =>
    obtain ⟨h1, h2⟩ := h
    refine ⟨?_, idN_ok h2⟩
    rcases h1 with e | e | e | e | e <;> subst e <;> simp [kw, kwords]
  | hea i l =>
    obtain ⟨h1, h2, h3⟩ := h
    refine ⟨idN_ok h1, by rw [List.length_map]; exact h2, fun e he => ?_⟩
    obtain ⟨x, hx, rfl⟩ := List.mem_map.mp he
    obtain ⟨a, b⟩ := h3 x hx
    exact ⟨a, Int.natCast_nonneg _, by show (x.2 : Int) ≤ 2; omega⟩
  | hrd i l =>
    obtain ⟨h1, h2, h3⟩ := h
    refine ⟨idN_ok h1, by rw [List.length_map]; exact h2, fun e he => ?_⟩
    obtain ⟨x, hx, rfl⟩ := List.mem_map.mp he
    have := h3 x hx
    omega
  | drp i l =>
    obtain ⟨h1, h2, h3⟩ := h
    exact ⟨idN_ok h1, h2, h3⟩
  | nul k =>
    rcases h with e | e | e <;> subst e <;> simp [Pz.pk, Pk.Ok, kw, kwords]
def b2 (b : Bool) : Nat := if b then 1 else 0
def num2 (n : Nat) : List Nat := [n / 256, n % 256]
def txtB (l : List Nat) : List Nat := num2 l.length ++ l
def flagT (c : Bool) (t : Tz) : Nat := 2 * b2 c + 4 + 8 * t.g + 32 * b2 t.k
def willB (c : Bool) : Option Tz → List Nat
  | none => [2 * b2 c]
  | some t => flagT c t :: (txtB t.n ++ txtB t.b)
def Pz.rest : Pz → List Nat
  | .con h c w => txtB h ++ willB c w
  | .gre b => [b2 b]
  | .say t ag i => txtB t.n ++ (if 0 < t.g then num2 i else []) ++ t.b
  | .one _ i => num2 i
  | .hea i l => num2 i ++ l.flatMap fun e => txtB e.1 ++ [e.2]
  | .hrd i l => num2 i ++ l
  | .drp i l => num2 i ++ l.flatMap txtB
  | .nul _ => []
def Pz.flags : Pz → Nat
  | .say t ag i => 8 * b2 ag + 2 * t.g + b2 t.k
  | _ => 0
def lenB (m : Nat) : List Nat := if m < 128 then [m] else [m % 128 + 128, m / 128]
def Pz.wr (p : Pz) : List Nat := (16 * p.kind + p.flags) :: (lenB p.rest.length ++ p.rest)
/-! sizes -/
theorem spl_len (c : Nat) : ∀ l : List Nat, l.length + 1 = ((splC c l).map (·.length)).sum + (splC c l).length
  | [] => rfl
  | a :: l => by
    have ih := spl_len c l
    have : ∃ p ps, splC c l = p :: ps := by
      cases l with
      | nil => exact ⟨_, _, rfl⟩
      | cons b l =>
        by_cases h : b = c
        · subst h; exact ⟨[], splC b l, by simp [splC]⟩
        · unfold splC
          rw [if_neg h]
          split <;> exact ⟨_, _, rfl⟩
    obtain ⟨p, ps, e⟩ := this
    by_cases h : a = c
    · subst h
      rw [show splC a (a :: l) = [] :: splC a l by simp [splC], List.map_cons, List.sum_cons, List.length_cons, List.length_cons]
      simp only [List.length_nil]
      omega
    · have e2 : splC c (a :: l) = (a :: p) :: ps := by
        rw [splC, if_neg h, e]
      rw [e] at ih
      rw [e2]
      simp only [List.map_cons, List.sum_cons, List.length_cons] at ih ⊢
      omega
/-! sizes and signs -/
theorem spl_mem {c x : Nat} : ∀ {l : List Nat}, x ∈ l → x = c ∨ ∃ p ∈ splC c l, x ∈ p
  | [], h => nomatch h
  | a :: l, h => by
    by_cases hac : a = c
    · subst hac
      rcases List.mem_cons.mp h with e | h
      · exact .inl e
      · rcases spl_mem (c := a) h with e | ⟨p, hp, hx⟩
        · exact .inl e
        · exact .inr ⟨p, by simp [splC, hp], hx⟩
    · rcases hs : splC c l with _ | ⟨q, qs⟩
      · exact absurd hs (splC_ne c l)
      · have e2 : splC c (a :: l) = (a :: q) :: qs := by rw [splC, if_neg hac, hs]
        rcases List.mem_cons.mp h with e | h
        · subst e
          exact .inr ⟨x :: q, by rw [e2]; simp, by simp⟩
        · rcases spl_mem (c := c) h with e | ⟨p, hp, hx⟩
          · exact .inl e
          · rw [hs] at hp
            rw [e2]
            rcases List.mem_cons.mp hp with e | hp
            · subst e
              exact .inr ⟨a :: p, by simp, by simp [hx]⟩
            · exact .inr ⟨p, by simp [hp], hx⟩
theorem sum_le12 : ∀ {ps : List (List Nat)}, (∀ p ∈ ps, p.length ≤ 12) → (ps.map (·.length)).sum ≤ 12 * ps.length
  | [], _ => by simp
  | p :: ps, h => by
    have h1 := h p (by simp)
    have h2 := sum_le12 (ps := ps) fun q hq => h q (by simp [hq])
    simp only [List.map_cons, List.sum_cons, List.length_cons]
    omega
theorem lvl_len {l : List Nat} (h8 : (splC 47 l).length ≤ 8) (h : ∀ p ∈ splC 47 l, p.length ≤ 12) : l.length ≤ 103 := by
  have := spl_len 47 l
  have := sum_le12 h
  omega
theorem sgn_b {c : Nat} (h : sgn c = true) : bsgn c = true := by
  unfold sgn at h
  unfold bsgn
  simp only [Bool.and_eq_true] at h ⊢
  exact h.1
theorem gl_b {l : List Nat} (h : gl l = true) : (∀ c ∈ l, bsgn c = true) ∧ l.length ≤ 12 := by
  unfold gl at h
  simp only [Bool.and_eq_true, decide_eq_true_eq, List.all_eq_true] at h
  exact ⟨fun c hc => sgn_b (h.2 c hc), h.1⟩
theorem gw_b {l : List Nat} (h : gw l = true) : (∀ c ∈ l, bsgn c = true) ∧ l.length ≤ 12 := by
  unfold gw at h
  simp only [Bool.or_eq_true, beq_iff_eq] at h
  rcases h with h | h
  · subst h; exact ⟨by decide, by decide⟩
  · exact gl_b h
theorem lvl_b {l : List Nat} (h8 : (splC 47 l).length ≤ 8) (h : ∀ p ∈ splC 47 l, (∀ c ∈ p, bsgn c = true) ∧ p.length ≤ 12) : l.all bsgn = true ∧ l.length ≤ 103 := by
  refine ⟨?_, lvl_len h8 fun p hp => (h p hp).2⟩
  rw [List.all_eq_true]
  intro x hx
  rcases spl_mem (c := 47) hx with e | ⟨p, hp, hx⟩
  · subst e; decide
  · exact (h p hp).1 x hx
theorem name_sg {l : List Nat} (h : isName l = true) : l.all bsgn = true ∧ l.length ≤ 103 := by
  unfold isName at h
  simp only [Bool.and_eq_true, decide_eq_true_eq, List.all_eq_true] at h
  exact lvl_b h.1.2 fun p hp => gl_b (h.2 p hp)
theorem plain_mem {ls : List (List Nat)} {p : List Nat} (h : p ∈ ls) : p ∈ plain ls ∨ p = [35] := by
  unfold plain
  split
  · rename_i e
    rcases List.eq_nil_or_concat ls with e2 | ⟨a, b, e2⟩
    · subst e2; cases h
    · subst e2
      rw [List.concat_eq_append, List.getLast?_concat] at e
      cases e
      rw [List.concat_eq_append, List.dropLast_concat]
      rw [List.concat_eq_append, List.mem_append] at h
      rcases h with h | h
      · exact .inl h
      · exact .inr (List.mem_singleton.mp h)
  · exact .inl h
theorem wish_sg {l : List Nat} (h : isWish l = true) : l.all bsgn = true ∧ l.length ≤ 103 := by
  unfold isWish at h
  simp only [Bool.and_eq_true, decide_eq_true_eq, List.all_eq_true] at h
  refine lvl_b h.1.2 fun p hp => ?_
  rcases plain_mem hp with hp | hp
  · exact gw_b (h.2 p hp)
  · subst hp; exact ⟨by decide, by decide⟩
theorem hearer_sg {l : List Nat} (h : isHearer l = true) : l.all bsgn = true ∧ l.length ≤ 12 := by
  unfold isHearer at h
  simp only [Bool.and_eq_true, decide_eq_true_eq, List.all_eq_true] at h
  refine ⟨?_, h.1.2⟩
  rw [List.all_eq_true]
  intro c hc
  have h2 := h.2 c hc
  have : ∀ c ∈ smalls, bsgn c = true := by decide +kernel
  exact this c h2
theorem body_sg {l : List Nat} (h : isBody l = true) : l.all bsgn = true ∧ l.length ≤ 300 := by
  unfold isBody at h
  simp only [Bool.and_eq_true, decide_eq_true_eq] at h
  exact ⟨h.2, h.1⟩
theorem txtB_len (l : List Nat) : (txtB l).length = l.length + 2 := by simp [txtB, num2]
theorem flat_len {α : Type} {f : α → List Nat} {m : Nat} : ∀ {l : List α}, (∀ a ∈ l, (f a).length ≤ m) → (l.flatMap f).length ≤ m * l.length
  | [], _ => by simp
  | a :: l, h => by
    have h1 := h a (by simp)
    have h2 := flat_len (f := f) (m := m) (l := l) fun b hb => h b (by simp [hb])
    rw [List.flatMap_cons, List.length_append, List.length_cons, Nat.mul_add]
    omega
theorem rest_len {p : Pz} (h : p.Ok) : p.rest.length ≤ 1100 := by
  cases p with
  | con hh c w =>
    obtain ⟨h1, h2⟩ := h
    have := (hearer_sg h1).2
    cases w with
    | none => simp only [Pz.rest, willB, List.length_append, txtB_len, List.length_cons, List.length_nil]; omega
    | some t =>
      obtain ⟨a, b, _⟩ := h2 t rfl
      have := (name_sg a).2
      have := (body_sg b).2
      simp only [Pz.rest, willB, List.length_append, txtB_len, List.length_cons]
      omega
  | gre b => simp [Pz.rest]
  | say t ag i =>
    obtain ⟨⟨a, b, _⟩, _⟩ := h
    have := (name_sg a).2
    have := (body_sg b).2
    simp only [Pz.rest, List.length_append, txtB_len]
    split <;> simp [num2] <;> omega
  | one k i => simp [Pz.rest, num2]
  | hea i l =>
    obtain ⟨_, h2, h3⟩ := h
    have := flat_len (f := fun e : List Nat × Nat => txtB e.1 ++ [e.2]) (m := 106) (l := l) fun e he => by
      have := (wish_sg (h3 e he).1).2
      simp only [List.length_append, txtB_len, List.length_cons, List.length_nil]
      omega
    simp only [Pz.rest, List.length_append, num2, List.length_cons, List.length_nil]
    omega
  | hrd i l =>
    obtain ⟨_, h2, h3⟩ := h
    simp only [Pz.rest, List.length_append, num2, List.length_cons, List.length_nil]
    omega
  | drp i l =>
    obtain ⟨_, h2, h3⟩ := h
    have := flat_len (f := txtB) (m := 106) (l := l) fun e he => by
      have := (wish_sg (h3 e he)).2
      rw [txtB_len]
      omega
    simp only [Pz.rest, List.length_append, num2, List.length_cons, List.length_nil]
    omega
  | nul k => simp [Pz.rest]
end Tx
namespace Tx
open PySem L2 Pd
/-! ### bytes are written -/
theorem mokL {i j : Int} (h1 : -1000000 < i) (h2 : i < 1000000) : decide ((-(2 ^ 64) < i ∧ i < 2 ^ 64) ∨ (-(2 ^ 64) < j ∧ j < 2 ^ 64)) = true := decide_eq_true (.inl (by omega))
theorem mokR {i j : Int} (h1 : -1000000 < j) (h2 : j < 1000000) : decide ((-(2 ^ 64) < i ∧ i < 2 ^ 64) ∨ (-(2 ^ 64) < j ∧ j < 2 ^ 64)) = true := decide_eq_true (.inr (by omega))
theorem mul128 {n : Int} {s : Sto} : dMul (.int n) (.int 128) s = .ok (.int (n * 128)) s := by
  have e2 : decide ((-(2 ^ 64) < n ∧ n < 2 ^ 64) ∨ (-(2 ^ 64) < (128 : Int) ∧ (128 : Int) < 2 ^ 64)) = true := decide_eq_true (.inr (by decide))
  simp only [iOp_int, e2, if_true]
theorem fdv128 {n : Int} {s : Sto} : dFdv (.int n) (.int 128) s = .ok (.int (n / 128)) s := by
  have e : decide (0 < (128 : Int) ∧ (128 : Int) < 1073741824) = true := by decide
  simp only [iOp_int, e, if_true]
theorem op_ok {op : Dt → Dt → Sto → Out Dt} {fa fb : Ex} {env : En} {s s1 s2 : Sto} {x y : Dt} (h1 : fa env s = .ok x s1) (h2 : fb env s1 = .ok y s2) : eOp op fa fb env s = op x y s2 := by
  unfold eOp bnd
  rw [h1]
  dsimp only
  rw [h2]
theorem mul256 {n : Int} {s : Sto} : dMul (.int n) (.int 256) s = .ok (.int (n * 256)) s := by
  have e2 : decide ((-(2 ^ 64) < n ∧ n < 2 ^ 64) ∨ (-(2 ^ 64) < (256 : Int) ∧ (256 : Int) < 2 ^ 64)) = true := decide_eq_true (.inr (by decide))
  simp only [iOp_int, e2, if_true]
theorem fdv256 {n : Int} {s : Sto} : dFdv (.int n) (.int 256) s = .ok (.int (n / 256)) s := by
  have e : decide (0 < (256 : Int) ∧ (256 : Int) < 1073741824) = true := by decide
  simp only [iOp_int, e, if_true]
theorem mod256 {n : Int} {s : Sto} : dMod (.int n) (.int 256) s = .ok (.int (n % 256)) s := by
  have e : decide (0 < (256 : Int)) = true := by decide
  simp only [iOp_int, e, if_true]
theorem lst2_ok {fa fb : Ex} {nw : List Dt → Sto → Out Dt} {env : En} {s s1 s2 : Sto} {x y : Dt} (h1 : fa env s = .ok x s1) (h2 : fb env s1 = .ok y s2) : eLst nw [fa, fb] env s = nw [x, y] s2 := by
  rw [ev_lst]
  unfold bnd
  rw [evs_cons]
  unfold bnd
  rw [h1]
  dsimp only
  rw [evs_cons]
  unfold bnd
  rw [h2]
  rfl
theorem dint_b {b : Bool} {s : Sto} : dInt (.bl b) s = .ok (.int (b2 b : Nat)) s := by cases b <;> rfl
theorem fn_ret1 {f : Ex} {d r : Dt} {s s' : Sto} (k : f [some d] s = .ok r s') : fnOf 1 (sRet f) [d] s = .ok r s' := by
  simp only [runR, Nat.reduceAdd, Nat.reduceSub, Int.reduceBEq, Int.reduceEq, Int.reduceLT, Int.reduceLE, Int.reduceNeg, Int.reduceAdd, Int.reduceSub, Int.reduceMul, Int.reduceToNat, Nat.reduceLT, Nat.reduceLeDiff, reduceIte, Int.reduceNe, Int.reduceBNe, String.reduceBEq, k]
theorem fn_if_ret {t : Tx} {f g : Ex} {d r : Dt} {s s' : Sto} (h : t [some d] s = .ok false s) (k : g [some d] s = .ok r s') : fnOf 1 (sSeq (sIf t (sRet f) sNext) (sRet g)) [d] s = .ok r s' := by
  simp only [runR, Nat.reduceAdd, Nat.reduceSub, Int.reduceBEq, Int.reduceEq, Int.reduceLT, Int.reduceLE, Int.reduceNeg, Int.reduceAdd, Int.reduceSub, Int.reduceMul, Int.reduceToNat, Nat.reduceLT, Nat.reduceLeDiff, reduceIte, Int.reduceNe, Int.reduceBNe, String.reduceBEq, k, h]
theorem fn_if_retT {t : Tx} {f g : Ex} {d r : Dt} {s s' : Sto} (h : t [some d] s = .ok true s) (k : f [some d] s = .ok r s') : fnOf 1 (sSeq (sIf t (sRet f) sNext) (sRet g)) [d] s = .ok r s' := by
  simp only [runR, Nat.reduceAdd, Nat.reduceSub, Int.reduceBEq, Int.reduceEq, Int.reduceLT, Int.reduceLE, Int.reduceNeg, Int.reduceAdd, Int.reduceSub, Int.reduceMul, Int.reduceToNat, Nat.reduceLT, Nat.reduceLeDiff, reduceIte, Int.reduceNe, Int.reduceBNe, String.reduceBEq, k, h]
theorem ev_id_bytes (n : Nat) (s : Sto) : m_id_bytes [.int (n : Int)] s = .ok (.obj s.length) (s ++ [.lst (bys (num2 n))]) := by
  have e : (n : Int) - (n : Int) / 256 * 256 = ((n % 256 : Nat) : Int) := by omega
  have e2 : (n : Int) / 256 = ((n / 256 : Nat) : Int) := by omega
  have v : ∀ {s : Sto}, (eVar 0) [some (.int (n : Int))] s = .ok (.int (n : Int)) s := fun {s} => rfl
  have c : ∀ {s : Sto}, (eC (.int 256)) [some (.int (n : Int))] s = .ok (.int 256) s := fun {s} => rfl
  have a1 : ∀ {s : Sto}, (eOp dFdv (eVar 0) (eC (.int 256))) [some (.int (n : Int))] s = .ok (.int ((n : Int) / 256)) s := fun {s} => (op_ok v c).trans fdv256
  have a2 : ∀ {s : Sto}, (eOp dMul (eOp dFdv (eVar 0) (eC (.int 256))) (eC (.int 256))) [some (.int (n : Int))] s = .ok (.int ((n : Int) / 256 * 256)) s := fun {s} => (op_ok a1 c).trans mul256
  have a3 : ∀ {s : Sto}, (eOp dSub (eVar 0) (eOp dMul (eOp dFdv (eVar 0) (eC (.int 256))) (eC (.int 256)))) [some (.int (n : Int))] s = .ok (.int ((n : Int) - (n : Int) / 256 * 256)) s := fun {s} => op_ok v a2
  have k : ∀ {s : Sto}, (eLst nwM [eOp dFdv (eVar 0) (eC (.int 256)), eOp dSub (eVar 0) (eOp dMul (eOp dFdv (eVar 0) (eC (.int 256))) (eC (.int 256)))]) [some (.int (n : Int))] s = .ok (.obj s.length) (s ++ [.lst (bys (num2 n))]) := fun {s} => by
    rw [lst2_ok a1 a3, e, e2]
    rfl
  unfold m_id_bytes b_id_bytes
  exact fn_ret1 k
theorem lc_codes {l : List Nat} {env : En} {i j : Nat} {s : Sto} (h : ∀ c : Nat, ∃ env1, gN j (.str (mkS [c])) (wipeD env [j]) s = some env1 ∧ env1[j]? = some (some (.str (mkS [c])))) : lcGo (gN j) Pd.tYes (eUn dOrd (eVar j)) (fun _ => True) (l.map fun c => .str (mkS [c])) (wipeD env [j]) s = .ok (bys l) s := by
  refine lc_map trivial fun c _ => ?_
  obtain ⟨env1, h1, h2⟩ := h c
  refine ⟨env1, h1, rfl, ?_⟩
  simp only [runR, Nat.reduceAdd, Nat.reduceSub, Int.reduceBEq, Int.reduceEq, Int.reduceLT, Int.reduceLE, Int.reduceNeg, Int.reduceAdd, Int.reduceSub, Int.reduceMul, Int.reduceToNat, Nat.reduceLT, Nat.reduceLeDiff, reduceIte, Int.reduceNe, Int.reduceBNe, String.reduceBEq, h2, dOrd_mk]
theorem dAdd_ol {i : Nat} {l m : List Dt} {s : Sto} (h : s[i]? = some (.lst l)) (hz : l.length + m.length ≤ 1000000) : dAdd nwF (.obj i) (.lst m) s = .ok (.lst (l ++ m)) s := dAdd_any (trkL_obj h) trkL_lst hz
theorem dAdd_ll {l m : List Dt} {s : Sto} (hz : l.length + m.length ≤ 1000000) : dAdd nwF (.lst l) (.lst m) s = .ok (.lst (l ++ m)) s := dAdd_any trkL_lst trkL_lst hz
theorem get_new {s : Sto} {m : Mo} : (s ++ [m])[s.length]? = some m := by simp
theorem bys_app (a b : List Nat) : bys (a ++ b) = bys a ++ bys b := List.map_append
theorem bys_len (a : List Nat) : (bys a).length = a.length := List.length_map ..
theorem txt_add {l : List Nat} {s : Sto} (h : l.length ≤ 100000) : dAdd nwF (.obj s.length) (.lst (bys l)) (s ++ [.lst (bys (num2 l.length))]) = .ok (.lst (bys (txtB l))) (s ++ [.lst (bys (num2 l.length))]) := by
  have hz : (bys (num2 l.length)).length + (bys l).length ≤ 1000000 := by
    rw [bys_len, bys_len]
    have : (num2 l.length).length = 2 := rfl
    omega
  rw [dAdd_ol get_new hz, ← bys_app]
  rfl
theorem txt_run {f : Fn} {l : List Nat} {m : List Dt} {d : Dt} {s s' : Sto} (c : f [.int (l.length : Int)] s = .ok d s') (k : lcGo (gN 1) Pd.tYes (eUn dOrd (eVar 1)) (fun _ => True) (l.map fun c => .str (mkS [c])) [some (.str (mkS l)), none] s' = .ok m s') {r : Dt} (a : dAdd nwF d (.lst m) s' = .ok r s') :
    fnOf 2 (sRet (eOp (dAdd nwF) (eCall f [eUn dLen (eVar 0)]) (eLc nwF [1] (iSeq (eVar 0)) (gN 1) (Pd.tYes) (eUn dOrd (eVar 1))))) [.str (mkS l)] s = .ok r s' := by
  simp only [runR, Nat.reduceAdd, Nat.reduceSub, Int.reduceBEq, Int.reduceEq, Int.reduceLT, Int.reduceLE, Int.reduceNeg, Int.reduceAdd, Int.reduceSub, Int.reduceMul, Int.reduceToNat, Nat.reduceLT, Nat.reduceLeDiff, reduceIte, Int.reduceNe, Int.reduceBNe, String.reduceBEq, c, mkS_len, wipeD_nil, wipeD_cons, bndN, k, a]
theorem ev_text_bytes {l : List Nat} {s : Sto} (h : l.length ≤ 100000) : m_text_bytes [.str (mkS l)] s = .ok (.lst (bys (txtB l))) (s ++ [.lst (bys (num2 l.length))]) := by
  have k := lc_codes (l := l) (env := [some (.str (mkS l)), none]) (j := 1) (i := 0) (s := s ++ [.lst (bys (num2 l.length))]) fun c => ⟨_, rfl, rfl⟩
  rw [wipeD_cons, wipeD_nil] at k
  simp only [List.set_cons_succ, List.set_cons_zero] at k
  exact txt_run (ev_id_bytes l.length s) k (txt_add h)
theorem ev_codes {l : List Nat} {s : Sto} : m_law_codes [.str (mkS l)] s = .ok (.lst (bys l)) s := by
  unfold m_law_codes b_law_codes
  have k := lc_codes (l := l) (env := [some (.str (mkS l)), none]) (j := 1) (i := 0) (s := s) fun c => ⟨_, rfl, rfl⟩
  rw [wipeD_cons, wipeD_nil] at k
  simp only [List.set_cons_succ, List.set_cons_zero] at k
  simp only [runR, Nat.reduceAdd, Nat.reduceSub, Int.reduceBEq, Int.reduceEq, Int.reduceLT, Int.reduceLE, Int.reduceNeg, Int.reduceAdd, Int.reduceSub, Int.reduceMul, Int.reduceToNat, Nat.reduceLT, Nat.reduceLeDiff, reduceIte, Int.reduceNe, Int.reduceBNe, String.reduceBEq, wipeD_nil, wipeD_cons, bndN, k]
theorem ev_counted {l : List Nat} {s : Sto} (h : l.length ≤ 100000) : m_law_counted [.str (mkS l)] s = .ok (.lst (bys (txtB l))) s := by
  unfold m_law_counted b_law_counted
  have e1 : (l.length : Int) / 256 = ((l.length / 256 : Nat) : Int) := by omega
  have e2 : (l.length : Int) % 256 = ((l.length % 256 : Nat) : Int) := by omega
  have v : ∀ {s : Sto}, (eUn dLen (eVar 0)) [some (.str (mkS l))] s = .ok (.int (l.length : Int)) s := fun {s} => by
    have : (eUn dLen (eVar 0)) [some (.str (mkS l))] s = dLen (.str (mkS l)) s := rfl
    rw [this, dLen_mk]
  have c : ∀ {s : Sto}, (eC (.int 256)) [some (.str (mkS l))] s = .ok (.int 256) s := fun {s} => rfl
  have k : ∀ {s : Sto}, (eLst nwF [eOp dFdv (eUn dLen (eVar 0)) (eC (.int 256)), eOp dMod (eUn dLen (eVar 0)) (eC (.int 256))]) [some (.str (mkS l))] s = .ok (.lst (bys (num2 l.length))) s := fun {s} => by
    rw [lst2_ok ((op_ok v c).trans fdv256) ((op_ok v c).trans mod256), e1, e2]
    rfl
  have a := dAdd_ll (s := s) (l := bys (num2 l.length)) (m := bys l) (by rw [bys_len, bys_len]; simp [num2]; omega)
  rw [← bys_app] at a
  refine fn_ret1 (op_ok k ?_ |>.trans a)
  simp only [runR, Nat.reduceAdd, Nat.reduceSub, Int.reduceBEq, Int.reduceEq, Int.reduceLT, Int.reduceLE, Int.reduceNeg, Int.reduceAdd, Int.reduceSub, Int.reduceMul, Int.reduceToNat, Nat.reduceLT, Nat.reduceLeDiff, reduceIte, Int.reduceNe, Int.reduceBNe, String.reduceBEq, ev_codes]
theorem ev_length_bytes (m : Nat) (s : Sto) : m_length_bytes [.int (m : Int)] s = .ok (.lst (bys (lenB m))) s := by
  unfold m_length_bytes b_length_bytes lenB
  have v : ∀ {s : Sto}, (eVar 0) [some (.int (m : Int))] s = .ok (.int (m : Int)) s := fun {s} => rfl
  have c : ∀ {s : Sto}, (eC (.int 128)) [some (.int (m : Int))] s = .ok (.int 128) s := fun {s} => rfl
  have a1 : ∀ {s : Sto}, (eOp dFdv (eVar 0) (eC (.int 128))) [some (.int (m : Int))] s = .ok (.int ((m : Int) / 128)) s := fun {s} => (op_ok v c).trans fdv128
  have a2 : ∀ {s : Sto}, (eOp dMul (eOp dFdv (eVar 0) (eC (.int 128))) (eC (.int 128))) [some (.int (m : Int))] s = .ok (.int ((m : Int) / 128 * 128)) s := fun {s} => (op_ok a1 c).trans mul128
  have a3 : ∀ {s : Sto}, (eOp (dAdd nwF) (eC (.int 128)) (eVar 0)) [some (.int (m : Int))] s = .ok (.int (128 + (m : Int))) s := fun {s} => (op_ok c v).trans dAdd_int
  have a4 : ∀ {s : Sto}, (eOp dSub (eOp (dAdd nwF) (eC (.int 128)) (eVar 0)) (eOp dMul (eOp dFdv (eVar 0) (eC (.int 128))) (eC (.int 128)))) [some (.int (m : Int))] s = .ok (.int (128 + (m : Int) - (m : Int) / 128 * 128)) s := fun {s} => op_ok a3 a2
  by_cases h : m < 128
  · have h1 : (m : Int) < 128 := by omega
    rw [if_pos h]
    refine fn_if_retT ?_ ?_
    · simp only [runR, Nat.reduceAdd, Nat.reduceSub, Int.reduceBEq, Int.reduceEq, Int.reduceLT, Int.reduceLE, Int.reduceNeg, Int.reduceAdd, Int.reduceSub, Int.reduceMul, Int.reduceToNat, Nat.reduceLT, Nat.reduceLeDiff, reduceIte, Int.reduceNe, Int.reduceBNe, String.reduceBEq, dLt, h1]
    · simp only [runR, Nat.reduceAdd, Nat.reduceSub, Int.reduceBEq, Int.reduceEq, Int.reduceLT, Int.reduceLE, Int.reduceNeg, Int.reduceAdd, Int.reduceSub, Int.reduceMul, Int.reduceToNat, Nat.reduceLT, Nat.reduceLeDiff, reduceIte, Int.reduceNe, Int.reduceBNe, String.reduceBEq]
  · have h1 : ¬ (m : Int) < 128 := by omega
    have e : 128 + (m : Int) - (m : Int) / 128 * 128 = ((m % 128 + 128 : Nat) : Int) := by omega
    have e2 : (m : Int) / 128 = ((m / 128 : Nat) : Int) := by omega
    rw [if_neg h]
    refine fn_if_ret ?_ ?_
    · simp only [runR, Nat.reduceAdd, Nat.reduceSub, Int.reduceBEq, Int.reduceEq, Int.reduceLT, Int.reduceLE, Int.reduceNeg, Int.reduceAdd, Int.reduceSub, Int.reduceMul, Int.reduceToNat, Nat.reduceLT, Nat.reduceLeDiff, reduceIte, Int.reduceNe, Int.reduceBNe, String.reduceBEq, dLt, h1]
    · rw [lst2_ok a4 a1, e, e2]
      rfl
/-! whole packets -/
theorem un_ok {op : Dt → Sto → Out Dt} {fa : Ex} {env : En} {s s1 : Sto} {x : Dt} (h1 : fa env s = .ok x s1) : eUn op fa env s = op x s1 := by
  unfold eUn bnd
  rw [h1]
theorem mulL {k n : Int} {s : Sto} (h1 : -1000000 < k) (h2 : k < 1000000) : dMul (.int k) (.int n) s = .ok (.int (k * n)) s := by
  simp only [iOp_int, mokL h1 h2, if_true]
theorem fdvL {k n : Int} {s : Sto} (h1 : 0 < k) (h2 : k < 1000000) : dFdv (.int n) (.int k) s = .ok (.int (n / k)) s := by
  have e : decide (0 < k ∧ k < 1073741824) = true := decide_eq_true ⟨h1, by omega⟩
  simp only [iOp_int, e, if_true]
theorem modL {k n : Int} {s : Sto} (h1 : 0 < k) : dMod (.int n) (.int k) s = .ok (.int (n % k)) s := by
  have e : decide (0 < k) = true := decide_eq_true h1
  simp only [iOp_int, e, if_true]
theorem ev_text {l : List Nat} {R : List SP} {s : Sto} (h : l.length ≤ 100000) (o : Own R s) : ∃ s', m_text_bytes [.str (mkS l)] s = .ok (.lst (bys (txtB l))) s' ∧ Own R s' := ⟨_, ev_text_bytes h, o.app _⟩
theorem lst1_ok {fa : Ex} {nw : List Dt → Sto → Out Dt} {env : En} {s s1 : Sto} {x : Dt} (h1 : fa env s = .ok x s1) : eLst nw [fa] env s = nw [x] s1 := by
  rw [ev_lst]
  unfold bnd
  rw [evs_cons]
  unfold bnd
  rw [h1]
  rfl
theorem call1_ok {f : Fn} {fa : Ex} {env : En} {s s1 : Sto} {x : Dt} (h1 : fa env s = .ok x s1) : eCall f [fa] env s = f [x] s1 := by
  rw [ev_call]
  unfold bnd
  rw [evs_cons]
  unfold bnd
  rw [h1]
  rfl
theorem will_runN {e1 e2 e3 : Ex} {a b c r : Dt} {s s' : Sto} (h : e1 [some (.tup [a, b, c, .non]), some .non, none] s = .ok r s') :
    fnOf 3 (sSeq (sAsg (eOp dIx (eVar 0) (eC (.int 3))) (gN 1)) (sSeq (sIf (tBl (eUn dIsN (eVar 1))) (sRet e1) sNext) (sSeq (sAsg e2 (gN 2)) (sRet e3)))) [.tup [a, b, c, .non]] s = .ok r s' := by
  simp only [runR, Nat.reduceAdd, Nat.reduceSub, Int.reduceBEq, Int.reduceEq, Int.reduceLT, Int.reduceLE, Int.reduceNeg, Int.reduceAdd, Int.reduceSub, Int.reduceMul, Int.reduceToNat, Nat.reduceLT, Nat.reduceLeDiff, reduceIte, Int.reduceNe, Int.reduceBNe, String.reduceBEq, h]
theorem will_runS {e1 e2 e3 : Ex} {a b c r f : Dt} {w : List Dt} {s s' s'' : Sto} (h : e2 [some (.tup [a, b, c, .tup w]), some (.tup w), none] s = .ok f s') (k : e3 [some (.tup [a, b, c, .tup w]), some (.tup w), some f] s' = .ok r s'') :
    fnOf 3 (sSeq (sAsg (eOp dIx (eVar 0) (eC (.int 3))) (gN 1)) (sSeq (sIf (tBl (eUn dIsN (eVar 1))) (sRet e1) sNext) (sSeq (sAsg e2 (gN 2)) (sRet e3)))) [.tup [a, b, c, .tup w]] s = .ok r s'' := by
  simp only [runR, Nat.reduceAdd, Nat.reduceSub, Int.reduceBEq, Int.reduceEq, Int.reduceLT, Int.reduceLE, Int.reduceNeg, Int.reduceAdd, Int.reduceSub, Int.reduceMul, Int.reduceToNat, Nat.reduceLT, Nat.reduceLeDiff, reduceIte, Int.reduceNe, Int.reduceBNe, String.reduceBEq, h, k]
def optZ : Option Tz → Dt
  | none => .non
  | some t => t.td.d
theorem con_d {h : List Nat} {c : Bool} {w : Option Tz} : (Pz.con h c w).d = .tup [wS "connect", .str (mkS h), .bl c, optZ w] := by cases w <;> rfl
def Tz.Sm (t : Tz) : Prop := t.n.length ≤ 1000 ∧ t.b.length ≤ 1000
theorem Tz.Ok.sm {t : Tz} (h : t.Ok) : t.Sm := by
  have := (name_sg h.1).2
  have := (body_sg h.2.1).2
  exact ⟨by omega, by omega⟩
theorem ev_will {h : List Nat} {c : Bool} {w : Option Tz} {R : List SP} {s : Sto} (hw : ∀ t, w = some t → t.Sm) (o : Own R s) : ∃ s', m_will_bytes [(Pz.con h c w).d] s = .ok (.lst (bys (willB c w))) s' ∧ Own R s' := by
  rw [con_d]
  cases w with
  | none =>
    refine ⟨s, will_runN ?_, o⟩
    have x1 : (eUn dInt (eOp dIx (eVar 0) (eC (.int 2)))) [some (.tup [wS "connect", .str (mkS h), .bl c, .non]), some .non, none] s = .ok (.int (b2 c : Nat)) s := dint_b
    rw [lst1_ok ((op_ok rfl x1).trans (mulL (by decide) (by decide)))]
    rfl
  | some t =>
    obtain ⟨h1, h2⟩ := hw t rfl
    obtain ⟨s1, q1, o1⟩ := ev_text (l := t.n) (by omega) o
    obtain ⟨s2, q2, o2⟩ := ev_text (l := t.b) (by omega) o1
    refine ⟨s2, will_runS (f := .int (flagT c t : Nat)) (s' := s) ?_ ?_, o2⟩
    · have x1 : (eUn dInt (eOp dIx (eVar 0) (eC (.int 2)))) [some (.tup [wS "connect", .str (mkS h), .bl c, t.td.d]), some t.td.d, none] s = .ok (.int (b2 c : Nat)) s := dint_b
      have x2 := (op_ok (op := dMul) (fa := eC (.int 2)) rfl x1).trans (mulL (by decide) (by decide))
      have x3 := (op_ok (op := dAdd nwF) (fb := eC (.int 4)) x2 rfl).trans dAdd_int
      have y1 : (eOp dIx (eVar 1) (eC (.int 2))) [some (.tup [wS "connect", .str (mkS h), .bl c, t.td.d]), some t.td.d, none] s = .ok (.int (t.g : Nat)) s := rfl
      have y2 := (op_ok (op := dMul) (fa := eC (.int 8)) rfl y1).trans (mulL (by decide) (by decide))
      have x4 := (op_ok (op := dAdd nwF) x3 y2).trans dAdd_int
      have z1 : (eUn dInt (eOp dIx (eVar 1) (eC (.int 3)))) [some (.tup [wS "connect", .str (mkS h), .bl c, t.td.d]), some t.td.d, none] s = .ok (.int (b2 t.k : Nat)) s := dint_b
      have z2 := (op_ok (op := dMul) (fa := eC (.int 32)) rfl z1).trans (mulL (by decide) (by decide))
      have x5 := (op_ok (op := dAdd nwF) x4 z2).trans dAdd_int
      have e : 2 * (b2 c : Int) + 4 + 8 * (t.g : Int) + 32 * (b2 t.k : Int) = ((flagT c t : Nat) : Int) := by unfold flagT; omega
      rw [e] at x5
      exact x5
    · have x1 : (eLst nwF [eVar 2]) [some (.tup [wS "connect", .str (mkS h), .bl c, t.td.d]), some t.td.d, some (.int (flagT c t : Nat))] s = .ok (.lst (bys [flagT c t])) s := rfl
      have y1 : (eCall m_text_bytes [eOp dIx (eVar 1) (eC (.int 0))]) [some (.tup [wS "connect", .str (mkS h), .bl c, t.td.d]), some t.td.d, some (.int (flagT c t : Nat))] s = .ok (.lst (bys (txtB t.n))) s1 := (call1_ok rfl).trans q1
      have y2 : (eCall m_text_bytes [eOp dIx (eVar 1) (eC (.int 1))]) [some (.tup [wS "connect", .str (mkS h), .bl c, t.td.d]), some t.td.d, some (.int (flagT c t : Nat))] s1 = .ok (.lst (bys (txtB t.b))) s2 := (call1_ok rfl).trans q2
      have z1 := (op_ok (op := dAdd nwF) x1 y1).trans (dAdd_ll (by rw [bys_len, bys_len, txtB_len]; simp only [List.length_cons, List.length_nil]; omega))
      rw [← bys_app] at z1
      have z2 := (op_ok (op := dAdd nwF) z1 y2).trans (dAdd_ll (by rw [bys_len, bys_len, List.length_append, txtB_len, txtB_len]; simp only [List.length_cons, List.length_nil]; omega))
      rw [← bys_app] at z2
      exact z2
/-! the bytes behind the length -/
theorem bm1_ok {ty : Sto → Dt → Bool} {op : Dt → Dt → Sto → Out Dt} {fo fe : Ex} {env : En} {s s1 s2 : Sto} {x y : Dt} (h1 : fo env s = .ok x s1) (ht : ty s1 x = true) (h2 : fe env s1 = .ok y s2) : eBm1 ty op fo fe env s = op x y s2 := by
  rw [ev_bm1]
  unfold bnd
  rw [h1]
  dsimp only
  rw [if_pos ht, h2]
theorem st_ifR {t : Tx} {f : Ex} {g : Sx} {env : En} {s s1 s2 : Sto} {d : Dt} (h : t env s = .ok true s1) (k : f env s1 = .ok d s2) : sIf t (sRet f) g env s = .fl (.rt d) s2 := by
  rw [ev_if, sBnd_def, h]
  show sRet f env s1 = _
  rw [ev_ret, sBnd_def, k]
theorem st_ifT {t : Tx} {f g : Sx} {env : En} {s s1 s2 : Sto} {r : Fl} (h : t env s = .ok true s1) (k : f env s1 = .fl r s2) : sIf t f g env s = .fl r s2 := by
  rw [ev_if, sBnd_def, h]
  exact k
theorem st_ifF {t : Tx} {f : Sx} {env : En} {s s1 : Sto} (h : t env s = .ok false s1) : sIf t f sNext env s = .fl (.nx env) s1 := by
  rw [ev_if, sBnd_def, h]
  rfl
theorem st_asg {f : Ex} {i : Nat} {env : En} {s s1 : Sto} {d : Dt} (h : f env s = .ok d s1) : sAsg f (gN i) env s = .fl (.nx (env.set i (some d))) s1 := by
  rw [ev_asg, sBnd_def, h]
  rfl
theorem st_ret {f : Ex} {env : En} {s s1 : Sto} {d : Dt} (h : f env s = .ok d s1) : sRet f env s = .fl (.rt d) s1 := by
  rw [ev_ret, sBnd_def, h]
theorem st_seqR {f g : Sx} {env e : En} {s s1 s2 : Sto} {r : Fl} (h : f env s = .fl (.nx e) s1) (k : g e s1 = .fl r s2) : sSeq f g env s = .fl r s2 := by
  simp only [sSeq, h]
  exact k
theorem ex_if {t : Tx} {f g : Ex} {env : En} {s s1 : Sto} {b : Bool} (h : t env s = .ok b s1) : eIf t f g env s = if b = true then f env s1 else g env s1 := by
  rw [ev_ifE]
  unfold bnd
  rw [h]
theorem own_lst {l : List Dt} {R : List SP} {s : Sto} (o : Own R s) : Own (LsA (.lst l) l :: R) s := own_ls.mpr (.inl ⟨rfl, o⟩)
theorem own_obj {p : Nat} {l : List Dt} {R : List SP} {s : Sto} (o : Own (At p (.lst l) :: R) s) : Own (LsA (.obj p) l :: R) s := own_ls.mpr (.inr ⟨p, rfl, o⟩)
def sayZ (t : Tz) (ag : Bool) (i : Nat) : List Dt := [wS "say", .str (mkS t.n), .str (mkS t.b), .int (t.g : Nat), .bl t.k, .bl ag, .int (i : Nat)]
theorem say_d {t : Tz} {ag : Bool} {i : Nat} : (Pz.say t ag i).d = .tup (sayZ t ag i) := rfl
theorem gt0 {n : Nat} {e : Ex} {env : En} {s : Sto} (h : e env s = .ok (.int (n : Int)) s) : (tBl (eOp dGt e (eC (.int 0)))) env s = .ok (decide (0 < n)) s := by
  by_cases h1 : 0 < n
  · have h2 : (0 : Int) < n := by omega
    simp only [runR, Nat.reduceAdd, Nat.reduceSub, Int.reduceBEq, Int.reduceEq, Int.reduceLT, Int.reduceLE, Int.reduceNeg, Int.reduceAdd, Int.reduceSub, Int.reduceMul, Int.reduceToNat, Nat.reduceLT, Nat.reduceLeDiff, reduceIte, Int.reduceNe, Int.reduceBNe, String.reduceBEq, h, dGt, h1, h2]
  · have h2 : ¬ (0 : Int) < n := by omega
    simp only [runR, Nat.reduceAdd, Nat.reduceSub, Int.reduceBEq, Int.reduceEq, Int.reduceLT, Int.reduceLE, Int.reduceNeg, Int.reduceAdd, Int.reduceSub, Int.reduceMul, Int.reduceToNat, Nat.reduceLT, Nat.reduceLeDiff, reduceIte, Int.reduceNe, Int.reduceBNe, String.reduceBEq, h, dGt, h1, h2]
def numO (g i : Nat) : List Nat := if 0 < g then num2 i else []
theorem numO_le (g i : Nat) : (numO g i).length ≤ 2 := by unfold numO; split <;> simp [num2]
theorem dAdd_lL {d : Dt} {l m : List Dt} {R : List SP} {s : Sto} (o : Own (LsA d m :: R) s) (hz : l.length + m.length ≤ 1000000) : dAdd nwF (.lst l) d s = .ok (.lst (l ++ m)) s := dAdd_any trkL_lst o.trk hz
theorem rest_say {t : Tz} {ag : Bool} {i : Nat} {R : List SP} {s : Sto} (h : t.Sm) (o : Own R s) : ∃ d s', m_rest_bytes [(Pz.say t ag i).d] s = .ok d s' ∧ Own (LsA d (bys (Pz.say t ag i).rest) :: R) s' := by
  obtain ⟨h1, h2⟩ := h
  rw [say_d]
  have hn : ∃ dn sn, (eIf (tBl (eOp dGt (eOp dIx (eVar 0) (eC (.int 3))) (eC (.int 0)))) (eCall m_id_bytes [eOp dIx (eVar 0) (eC (.int 6))]) (eLst nwF [])) [some (.tup (sayZ t ag i)), some (wS "say"), none, none, none, none] s = .ok dn sn ∧ Own (LsA dn (bys (numO t.g i)) :: R) sn := by
    have k : (tBl (eOp dGt (eOp dIx (eVar 0) (eC (.int 3))) (eC (.int 0)))) [some (.tup (sayZ t ag i)), some (wS "say"), none, none, none, none] s = .ok (decide (0 < t.g)) s := gt0 rfl
    rw [ex_if k]
    by_cases h3 : 0 < t.g
    · rw [decide_eq_true h3, if_pos rfl]
      refine ⟨_, _, (call1_ok (fa := eOp dIx (eVar 0) (eC (.int 6))) rfl).trans (ev_id_bytes i s), ?_⟩
      rw [numO, if_pos h3]
      exact own_obj (o.new _)
    · rw [decide_eq_false h3, if_neg (by decide)]
      refine ⟨_, _, rfl, ?_⟩
      rw [numO, if_neg h3]
      exact own_lst o
  obtain ⟨dn, sn, q1, o1⟩ := hn
  obtain ⟨s1, q2, o2⟩ := ev_text (l := t.n) (by omega) o1
  have k3 : (eLc nwF [5] (iSeq (eOp dIx (eVar 0) (eC (.int 2)))) (gN 5) (Pd.tYes) (eUn dOrd (eVar 5))) [some (.tup (sayZ t ag i)), some (wS "say"), some dn, none, none, none] s1 = .ok (.lst (bys t.b)) s1 := by
    have k := lc_codes (l := t.b) (env := [some (.tup (sayZ t ag i)), some (wS "say"), some dn, none, none, none]) (j := 5) (i := 0) (s := s1) fun c => ⟨_, rfl, rfl⟩
    rw [ev_lc, bnd_def]
    show bndN (lcGo (gN 5) Pd.tYes (eUn dOrd (eVar 5)) (fun _ => True) (signs (mkS t.b)) _) nwF s1 = _
    rw [signs_mk, bndN_ok k]
    rfl
  have e3 : (eOp (dAdd nwF) (eOp (dAdd nwF) (eCall m_text_bytes [eOp dIx (eVar 0) (eC (.int 1))]) (eVar 2)) (eLc nwF [5] (iSeq (eOp dIx (eVar 0) (eC (.int 2)))) (gN 5) (Pd.tYes) (eUn dOrd (eVar 5)))) [some (.tup (sayZ t ag i)), some (wS "say"), some dn, none, none, none] sn = .ok (.lst (bys (Pz.say t ag i).rest)) s1 := by
    have x1 : (eCall m_text_bytes [eOp dIx (eVar 0) (eC (.int 1))]) [some (.tup (sayZ t ag i)), some (wS "say"), some dn, none, none, none] sn = .ok (.lst (bys (txtB t.n))) s1 := (call1_ok rfl).trans q2
    have ln := numO_le t.g i
    have x2 := (op_ok (op := dAdd nwF) (fb := eVar 2) x1 rfl).trans (dAdd_lL o2 (by rw [bys_len, bys_len, txtB_len]; omega))
    rw [← bys_app] at x2
    have x3 := (op_ok (op := dAdd nwF) x2 k3).trans (dAdd_ll (by rw [bys_len, bys_len, List.length_append, txtB_len]; omega))
    rw [← bys_app] at x3
    exact x3
  refine ⟨.lst (bys (Pz.say t ag i).rest), s1, ?_, own_lst ((Own.pm o2 (by repeat first | exact Pm.rfl | (apply Pm.cons; repeat first | exact Tk.hd | apply Tk.tl) | apply Pm.skip)))⟩
  unfold m_rest_bytes b_rest_bytes
  have f1 : u_rest_bytes_1 [some (.tup (sayZ t ag i)), none, none, none, none, none] s = .fl (.nx [some (.tup (sayZ t ag i)), some (wS "say"), none, none, none, none]) s := st_asg rfl
  have f2 : u_rest_bytes_2 [some (.tup (sayZ t ag i)), some (wS "say"), none, none, none, none] s = .fl (.nx [some (.tup (sayZ t ag i)), some (wS "say"), none, none, none, none]) s := st_ifF (by simp only [runR, Nat.reduceAdd, Nat.reduceSub, Int.reduceBEq, Int.reduceEq, Int.reduceLT, Int.reduceLE, Int.reduceNeg, Int.reduceAdd, Int.reduceSub, Int.reduceMul, Int.reduceToNat, Nat.reduceLT, Nat.reduceLeDiff, reduceIte, Int.reduceNe, Int.reduceBNe, String.reduceBEq])
  have f3 : u_rest_bytes_3 [some (.tup (sayZ t ag i)), some (wS "say"), none, none, none, none] s = .fl (.nx [some (.tup (sayZ t ag i)), some (wS "say"), none, none, none, none]) s := st_ifF (by simp only [runR, Nat.reduceAdd, Nat.reduceSub, Int.reduceBEq, Int.reduceEq, Int.reduceLT, Int.reduceLE, Int.reduceNeg, Int.reduceAdd, Int.reduceSub, Int.reduceMul, Int.reduceToNat, Nat.reduceLT, Nat.reduceLeDiff, reduceIte, Int.reduceNe, Int.reduceBNe, String.reduceBEq])
  have f4 : u_rest_bytes_4 [some (.tup (sayZ t ag i)), some (wS "say"), none, none, none, none] s = .fl (.rt (.lst (bys (Pz.say t ag i).rest))) s1 := st_ifT (s1 := s) (by simp only [runR, Nat.reduceAdd, Nat.reduceSub, Int.reduceBEq, Int.reduceEq, Int.reduceLT, Int.reduceLE, Int.reduceNeg, Int.reduceAdd, Int.reduceSub, Int.reduceMul, Int.reduceToNat, Nat.reduceLT, Nat.reduceLeDiff, reduceIte, Int.reduceNe, Int.reduceBNe, String.reduceBEq]) (st_seqR (st_asg q1) (st_ret e3))
  suffices k : WO (fnOf 6 (sSeq u_rest_bytes_1 (sSeq u_rest_bytes_2 (sSeq u_rest_bytes_3 (sSeq u_rest_bytes_4 (sSeq u_rest_bytes_5 (sSeq u_rest_bytes_6 (sSeq u_rest_bytes_7 (u_rest_bytes_8)))))))) [.tup (sayZ t ag i)] s) (fun d s' => d = .lst (bys (Pz.say t ag i).rest) ∧ s' = s1) noX by
    obtain ⟨d, s', e, rfl, rfl⟩ := wo_iff k
    exact e
  exact wf_fn (ws_step f1 (ws_step f2 (ws_step f3 (ws_out f4 ⟨rfl, rfl⟩))))
theorem ws_chk {f : Sx} {ds : List Dt} {n : Nat} {d : Dt} {s s' : Sto} (h : WS f ⟨fun _ _ => False, fun x z => x = d ∧ z = s', fun _ _ => False, fun _ _ => False, fun _ _ _ => False⟩ (ds.map some ++ List.replicate (n - ds.length) none) s) : fnOf n f ds s = .ok d s' := by
  have : WO (fnOf n f ds s) (fun x z => x = d ∧ z = s') noX := wf_fn (ws_mono h (fun _ _ k => k.elim) (fun _ _ k => k) (fun _ _ k => k) (fun _ _ k => k) fun _ _ _ k => k.elim)
  obtain ⟨_, _, e, rfl, rfl⟩ := wo_iff this
  exact e
theorem dEq_w {w : Str} {x : String} {b : Bool} {s : Sto} (h : (w == Str.ofString x) = b) : dEq (.str w) (.str (Str.ofString x)) s = .ok (.bl b) s := by rw [dEq_str, h]
theorem tBl_ok {f : Ex} {env : En} {s s1 : Sto} {b : Bool} (h : f env s = .ok (.bl b) s1) : tBl f env s = .ok b s1 := by
  unfold tBl bnd
  rw [h]
theorem var_ok {i : Nat} {d : Dt} {env : En} {s : Sto} (hv : env[i]? = some (some d)) : (eVar i) env s = .ok d s := by
  rw [ev_var, hv]
theorem t_w {i : Nat} {w : Str} {x : String} {b : Bool} {env : En} {s : Sto} (hv : env[i]? = some (some (.str w))) (h : (w == Str.ofString x) = b) : (tBl (eOp dEq (eVar i) (eC (.str (Str.ofString x))))) env s = .ok b s := 
  tBl_ok ((op_ok (fb := eC (.str (Str.ofString x))) (var_ok hv) rfl).trans (dEq_w h))
theorem len_t {i n : Nat} {k : Int} {l : List Dt} {env : En} {s : Sto} {b : Bool} (hv : env[i]? = some (some (.tup l))) (hl : l.length = n) (h : ((n : Int) == k) = b) : (tBl (eOp dEq (eUn dLen (eVar i)) (eC (.int k)))) env s = .ok b s := by
  subst hl
  have e : (eUn dLen (eVar i)) env s = .ok (.int (l.length : Int)) s := (un_ok (var_ok hv)).trans rfl
  exact tBl_ok ((op_ok (fb := eC (.int k)) e rfl).trans (by rw [dEq_int, h]))
theorem rest_go1 {p d : Dt} {s s' : Sto} {env : En} (h : u_rest_bytes_1 [some p, none, none, none, none, none] s = .fl (.nx env) s) (k : WS (sSeq u_rest_bytes_2 (sSeq u_rest_bytes_3 (sSeq u_rest_bytes_4 (sSeq u_rest_bytes_5 (sSeq u_rest_bytes_6 (sSeq u_rest_bytes_7 (u_rest_bytes_8))))))) ⟨fun _ _ => False, fun x z => x = d ∧ z = s', fun _ _ => False, fun _ _ => False, fun _ _ _ => False⟩ env s) : m_rest_bytes [p] s = .ok d s' := by
  unfold m_rest_bytes
  refine ws_chk ?_
  unfold b_rest_bytes
  exact ws_step h k
theorem and_rfl {d : Dt} {s : Sto} : d = d ∧ s = s := ⟨rfl, rfl⟩
theorem rest_out2 {p d : Dt} {s s' : Sto} {env : En} (h : u_rest_bytes_1 [some p, none, none, none, none, none] s = .fl (.nx env) s) (h2 : u_rest_bytes_2 env s = .fl (.rt d) s') : m_rest_bytes [p] s = .ok d s' :=
  rest_go1 h (ws_out h2 and_rfl)
theorem rest_out3 {p d : Dt} {s s' : Sto} {env : En} (h : u_rest_bytes_1 [some p, none, none, none, none, none] s = .fl (.nx env) s) (h2 : u_rest_bytes_2 env s = .fl (.nx env) s) (h3 : u_rest_bytes_3 env s = .fl (.rt d) s') : m_rest_bytes [p] s = .ok d s' :=
  rest_go1 h (ws_step h2 (ws_out h3 and_rfl))
theorem rest_out5 {p d : Dt} {s s' : Sto} {env : En} (h : u_rest_bytes_1 [some p, none, none, none, none, none] s = .fl (.nx env) s) (h2 : u_rest_bytes_2 env s = .fl (.nx env) s) (h3 : u_rest_bytes_3 env s = .fl (.nx env) s) (h4 : u_rest_bytes_4 env s = .fl (.nx env) s) (h5 : u_rest_bytes_5 env s = .fl (.rt d) s') : m_rest_bytes [p] s = .ok d s' :=
  rest_go1 h (ws_step h2 (ws_step h3 (ws_step h4 (ws_out h5 and_rfl))))
theorem rest_out8 {p d : Dt} {s s' s'' : Sto} {env e2 e3 : En} (h : u_rest_bytes_1 [some p, none, none, none, none, none] s = .fl (.nx env) s) (h2 : u_rest_bytes_2 env s = .fl (.nx env) s) (h3 : u_rest_bytes_3 env s = .fl (.nx env) s) (h4 : u_rest_bytes_4 env s = .fl (.nx env) s) (h5 : u_rest_bytes_5 env s = .fl (.nx env) s) (h6 : u_rest_bytes_6 env s = .fl (.nx e2) s') (h7 : u_rest_bytes_7 e2 s' = .fl (.nx e3) s'') (h8 : u_rest_bytes_8 e3 s'' = .fl (.rt d) s'') : m_rest_bytes [p] s = .ok d s'' :=
  rest_go1 h (ws_step h2 (ws_step h3 (ws_step h4 (ws_step h5 (ws_step h6 (ws_step h7 (ws_rt h8 and_rfl)))))))
theorem rest_con {h : List Nat} {c : Bool} {w : Option Tz} {R : List SP} {s : Sto} (hh : h.length ≤ 1000) (hw : ∀ t, w = some t → t.Sm) (o : Own R s) : ∃ d s', m_rest_bytes [(Pz.con h c w).d] s = .ok d s' ∧ Own (LsA d (bys (Pz.con h c w).rest) :: R) s' := by
  obtain ⟨s1, q1, o1⟩ := ev_text (l := h) (by omega) o
  obtain ⟨s2, q2, o2⟩ := ev_will (h := h) (c := c) hw o1
  rw [con_d] at q2 ⊢
  refine ⟨.lst (bys (Pz.con h c w).rest), s2, ?_, own_lst o2⟩
  have lw : (willB c w).length ≤ 3000 := by
    cases w with
    | none => simp [willB]
    | some t =>
      have := hw t rfl
      unfold Tz.Sm at this
      simp only [willB, List.length_cons, List.length_append, txtB_len]
      omega
  have x1 : (eCall m_text_bytes [eOp dIx (eVar 0) (eC (.int 1))]) [some (.tup [wS "connect", .str (mkS h), .bl c, optZ w]), some (wS "connect"), none, none, none, none] s = .ok (.lst (bys (txtB h))) s1 := (call1_ok rfl).trans q1
  have x2 : (eCall m_will_bytes [eVar 0]) [some (.tup [wS "connect", .str (mkS h), .bl c, optZ w]), some (wS "connect"), none, none, none, none] s1 = .ok (.lst (bys (willB c w))) s2 := (call1_ok rfl).trans q2
  have x3 := (op_ok (op := dAdd nwF) x1 x2).trans (dAdd_ll (by rw [bys_len, bys_len, txtB_len]; omega))
  rw [← bys_app] at x3
  have f1 : u_rest_bytes_1 [some (.tup [wS "connect", .str (mkS h), .bl c, optZ w]), none, none, none, none, none] s = .fl (.nx [some (.tup [wS "connect", .str (mkS h), .bl c, optZ w]), some (wS "connect"), none, none, none, none]) s := st_asg rfl
  have f2 : u_rest_bytes_2 [some (.tup [wS "connect", .str (mkS h), .bl c, optZ w]), some (wS "connect"), none, none, none, none] s = .fl (.rt (.lst (bys (Pz.con h c w).rest))) s2 := st_ifR (t_w rfl (by decide +kernel)) x3
  exact rest_out2 f1 f2
theorem gre_d {b : Bool} : (Pz.gre b).d = .tup [wS "greeted", .bl b] := rfl
theorem rest_gre {b : Bool} {R : List SP} {s : Sto} (o : Own R s) : ∃ d s', m_rest_bytes [(Pz.gre b).d] s = .ok d s' ∧ Own (LsA d (bys (Pz.gre b).rest) :: R) s' := by
  refine ⟨.lst (bys (Pz.gre b).rest), s, ?_, own_lst o⟩
  rw [gre_d]
  have x1 : (eUn dInt (eOp dIx (eVar 0) (eC (.int 1)))) [some (.tup [wS "greeted", .bl b]), some (wS "greeted"), none, none, none, none] s = .ok (.int (b2 b : Nat)) s := dint_b
  have x2 := (lst1_ok (nw := nwF) x1)
  have f1 : u_rest_bytes_1 [some (.tup [wS "greeted", .bl b]), none, none, none, none, none] s = .fl (.nx [some (.tup [wS "greeted", .bl b]), some (wS "greeted"), none, none, none, none]) s := st_asg rfl
  exact rest_out3 f1 (st_ifF (t_w rfl (by decide +kernel))) (st_ifR (t_w rfl (by decide +kernel)) x2)
def othW (w : Str) : Prop := (w == Str.ofString "connect") = false ∧ (w == Str.ofString "greeted") = false ∧ (w == Str.ofString "say") = false
theorem kw_oth {k : Nat} (h : k = 4 ∨ k = 5 ∨ k = 6 ∨ k = 7 ∨ k = 8 ∨ k = 9 ∨ k = 10 ∨ k = 11 ∨ k = 12 ∨ k = 13 ∨ k = 14) : othW (Str.ofString (kw k)) := by
  rcases h with e | e | e | e | e | e | e | e | e | e | e <;> subst e <;> exact ⟨by decide +kernel, by decide +kernel, by decide +kernel⟩
theorem oth_steps {w : Str} {r : List Dt} {s : Sto} (h : othW w) : u_rest_bytes_1 [some (.tup (.str w :: r)), none, none, none, none, none] s = .fl (.nx [some (.tup (.str w :: r)), some (.str w), none, none, none, none]) s ∧
    u_rest_bytes_2 [some (.tup (.str w :: r)), some (.str w), none, none, none, none] s = .fl (.nx [some (.tup (.str w :: r)), some (.str w), none, none, none, none]) s ∧
    u_rest_bytes_3 [some (.tup (.str w :: r)), some (.str w), none, none, none, none] s = .fl (.nx [some (.tup (.str w :: r)), some (.str w), none, none, none, none]) s ∧
    u_rest_bytes_4 [some (.tup (.str w :: r)), some (.str w), none, none, none, none] s = .fl (.nx [some (.tup (.str w :: r)), some (.str w), none, none, none, none]) s :=
  ⟨st_asg ((op_ok (fa := eVar 0) (fb := eC (.int 0)) rfl rfl).trans (by rw [dIx_tup, atI_zero]; rfl)), st_ifF (t_w rfl h.1), st_ifF (t_w rfl h.2.1), st_ifF (t_w rfl h.2.2)⟩
theorem rest_nul {k : Nat} {R : List SP} {s : Sto} (h : (Pz.nul k).Ok) (o : Own R s) : ∃ d s', m_rest_bytes [(Pz.nul k).d] s = .ok d s' ∧ Own (LsA d (bys (Pz.nul k).rest) :: R) s' := by
  have hw : othW (Str.ofString (kw k)) := kw_oth (by have : k = 12 ∨ k = 13 ∨ k = 14 := h; omega)
  obtain ⟨f1, f2, f3, f4⟩ := oth_steps (r := []) (s := s) hw
  exact ⟨.lst [], s, rest_out5 f1 f2 f3 f4 (st_ifR (len_t (n := 1) (k := 1) rfl rfl (by decide)) rfl), own_lst o⟩
theorem rest_one {k i : Nat} {R : List SP} {s : Sto} (h : (Pz.one k i).Ok) (o : Own R s) : ∃ d s', m_rest_bytes [(Pz.one k i).d] s = .ok d s' ∧ Own (LsA d (bys (Pz.one k i).rest) :: R) s' := by
  have hw : othW (Str.ofString (kw k)) := kw_oth (by have : k = 4 ∨ k = 5 ∨ k = 6 ∨ k = 7 ∨ k = 11 := h.1; omega)
  obtain ⟨f1, f2, f3, f4⟩ := oth_steps (r := [.int (i : Nat)]) (s := s) hw
  have f6 : u_rest_bytes_6 [some (.tup [.str (Str.ofString (kw k)), .int (i : Nat)]), some (.str (Str.ofString (kw k))), none, none, none, none] s = .fl (.nx [some (.tup [.str (Str.ofString (kw k)), .int (i : Nat)]), some (.str (Str.ofString (kw k))), none, some (.obj s.length), none, none]) (s ++ [.lst (bys (num2 i))]) :=
    st_asg ((call1_ok (fa := eOp dIx (eVar 0) (eC (.int 1))) rfl).trans (ev_id_bytes i s))
  have f7 : u_rest_bytes_7 [some (.tup [.str (Str.ofString (kw k)), .int (i : Nat)]), some (.str (Str.ofString (kw k))), none, some (.obj s.length), none, none] (s ++ [.lst (bys (num2 i))]) = .fl (.nx [some (.tup [.str (Str.ofString (kw k)), .int (i : Nat)]), some (.str (Str.ofString (kw k))), none, some (.obj s.length), none, none]) (s ++ [.lst (bys (num2 i))]) := by
    have hi : (iSeq (eIf (tBl (eOp dEq (eUn dLen (eVar 0)) (eC (.int 3)))) (eOp dIx (eVar 0) (eC (.int 2))) (eTup []))) [some (.tup [.str (Str.ofString (kw k)), .int (i : Nat)]), some (.str (Str.ofString (kw k))), none, some (.obj s.length), none, none] (s ++ [.lst (bys (num2 i))]) = .ok ([], fun s' => asQ s' (.tup []) = some []) (s ++ [.lst (bys (num2 i))]) := by
      rw [ev_iSeq]
      unfold bnd
      rw [ex_if (len_t (n := 2) (k := 3) (b := false) (l := [.str (Str.ofString (kw k)), .int (i : Nat)]) rfl rfl (by decide))]
      rfl
    unfold u_rest_bytes_7
    rw [ev_for, sBnd_def, hi]
    simp only [forGo]
    rw [if_pos asQ_tup]
  exact ⟨.obj s.length, _, rest_out8 f1 f2 f3 f4 (st_ifF (len_t (n := 2) (k := 1) rfl rfl (by decide))) f6 f7 (st_ret rfl), own_obj (o.new _)⟩
theorem rest_goW {p : Dt} {s s' : Sto} {env e2 : En} {Q : Dt → Sto → Prop} (h : u_rest_bytes_1 [some p, none, none, none, none, none] s = .fl (.nx env) s) (h2 : u_rest_bytes_2 env s = .fl (.nx env) s) (h3 : u_rest_bytes_3 env s = .fl (.nx env) s) (h4 : u_rest_bytes_4 env s = .fl (.nx env) s) (h5 : u_rest_bytes_5 env s = .fl (.nx env) s) (h6 : u_rest_bytes_6 env s = .fl (.nx e2) s')
    (k : WS (sSeq u_rest_bytes_7 u_rest_bytes_8) ⟨fun _ s => Q .non s, Q, fun _ _ => False, fun _ _ => False, fun c _ s => noX c s⟩ e2 s') : WO (m_rest_bytes [p] s) Q noX := by
  unfold m_rest_bytes
  refine wf_fn ?_
  unfold b_rest_bytes
  exact ws_step h (ws_step h2 (ws_step h3 (ws_step h4 (ws_step h5 (ws_step h6 k)))))
theorem rest_lst {w : Str} (hw : othW w) {i : Nat} {α : Type} {l : List α} {f : α → Dt} {g : α → List Nat} (hl : l.length ≤ 100) (hg : ∀ a ∈ l, (g a).length ≤ 3000) {R : List SP} {s : Sto}
    (turn : ∀ a ∈ l, ∀ (acc : List Nat) (p : Option Dt) (j : Nat) (s' : Sto), acc.length ≤ 500000 → Own (At j (.lst (bys acc)) :: R) s' → ∃ s'', l_rest_bytes_1 [p, some (.str w), none, some (.obj j), some (f a), none] s' = .fl (.nx [p, some (.str w), none, some (.obj j), some (f a), none]) s'' ∧ Own (At j (.lst (bys (acc ++ g a))) :: R) s'') (o : Own R s) :
    ∃ d s', m_rest_bytes [.tup [.str w, .int (i : Nat), .tup (l.map f)]] s = .ok d s' ∧ Own (LsA d (bys (num2 i ++ l.flatMap g)) :: R) s' := by
  obtain ⟨f1, f2, f3, f4⟩ := oth_steps (r := [.int (i : Nat), .tup (l.map f)]) (s := s) hw
  have f6 : u_rest_bytes_6 [some (.tup [.str w, .int (i : Nat), .tup (l.map f)]), some (.str w), none, none, none, none] s = .fl (.nx [some (.tup [.str w, .int (i : Nat), .tup (l.map f)]), some (.str w), none, some (.obj s.length), none, none]) (s ++ [.lst (bys (num2 i))]) :=
    st_asg ((call1_ok (fa := eOp dIx (eVar 0) (eC (.int 1))) rfl).trans (ev_id_bytes i s))
  suffices k : WO (m_rest_bytes [.tup [.str w, .int (i : Nat), .tup (l.map f)]] s) (fun d s' => Own (LsA d (bys (num2 i ++ l.flatMap g)) :: R) s') noX by
    obtain ⟨d, s', e, h⟩ := wo_iff k
    exact ⟨d, s', e, h⟩
  refine rest_goW f1 f2 f3 f4 (st_ifF (len_t (n := 3) rfl rfl (by decide))) f6 ?_
  generalize hj : s.length = j
  have o1 : Own (At j (.lst (bys (num2 i))) :: R) (s ++ [.lst (bys (num2 i))]) := by
    subst hj
    exact o.new _
  generalize s ++ [.lst (bys (num2 i))] = s1 at o1 ⊢
  refine ws_seq ?_
  unfold u_rest_bytes_7
  have hi : (iSeq (eIf (tBl (eOp dEq (eUn dLen (eVar 0)) (eC (.int 3)))) (eOp dIx (eVar 0) (eC (.int 2))) (eTup []))) [some (.tup [.str w, .int (i : Nat), .tup (l.map f)]), some (.str w), none, some (.obj j), none, none] s1 = .ok (l.map f, fun s' => asQ s' (.tup (l.map f)) = some (l.map f)) s1 := by
    rw [ev_iSeq]
    unfold bnd
    rw [ex_if (len_t (n := 3) (b := true) (l := [.str w, .int (i : Nat), .tup (l.map f)]) rfl rfl (by decide))]
    rfl
  refine ws_for (f := f) [4] (fun pre _ s' => Own (At j (.lst (bys (num2 i ++ pre.flatMap g))) :: R) s') hi rfl (by simpa using o1) ?_ ?_
  · rintro pre a post xs s' hall hx o2
    obtain ⟨x, rfl⟩ := len1 hx
    refine ⟨rfl, _, rfl, ?_⟩
    have h1 := flat_len (f := g) (m := 3000) (l := pre) fun b hb => hg b (by rw [hall]; simp [hb])
    have h2 := congrArg List.length hall
    rw [List.length_append, List.length_cons] at h2
    obtain ⟨s2, e2, o3⟩ := turn a (by rw [hall]; simp) _ _ j s' (by rw [List.length_append]; simp only [num2, List.length_cons, List.length_nil]; omega) o2
    refine ws_nx e2 ⟨[_], rfl, rfl, ?_⟩
    rw [List.flatMap_append, List.flatMap_singleton, ← List.append_assoc]
    exact o3
  · rintro xs s' hx o2
    obtain ⟨x, rfl⟩ := len1 hx
    refine ⟨rfl, ?_⟩
    dsimp only
    refine ws_rt (f := u_rest_bytes_8) (d := .obj j) (s1 := s') ?_ ?_
    · exact st_ret rfl
    · exact own_obj o2
theorem st_expr {f : Ex} {env : En} {s s1 : Sto} {d : Dt} (h : f env s = .ok d s1) : sExpr f env s = .fl (.nx env) s1 := by
  rw [ev_expr, sBnd_def, h]
theorem st_ifE {t : Tx} {f g : Sx} {env : En} {s s1 s2 : Sto} {r : Fl} (h : t env s = .ok false s1) (k : g env s1 = .fl r s2) : sIf t f g env s = .fl r s2 := by
  rw [ev_if, sBnd_def, h]
  exact k
theorem rest_hrd {i : Nat} {l : List Nat} {R : List SP} {s : Sto} (h : (Pz.hrd i l).Ok) (o : Own R s) : ∃ d s', m_rest_bytes [(Pz.hrd i l).d] s = .ok d s' ∧ Own (LsA d (bys (Pz.hrd i l).rest) :: R) s' := by
  have e : (Pz.hrd i l).d = .tup [.str (Str.ofString "heard"), .int (i : Nat), .tup (l.map fun n : Nat => .int (n : Int))] := by
    simp only [Pz.d, Pz.pk, Pk.d, List.map_map]
    rfl
  have z : (Pz.hrd i l).rest = num2 i ++ l.flatMap fun n => [n] := by
    simp only [Pz.rest, List.flatMap_singleton']
  rw [e, z]
  have hl := h.2.1.2
  refine rest_lst (kw_oth (k := 9) (by omega)) (by omega) (fun a _ => by simp) (fun a ha acc p j s' hz o => ?_) o
  have e1 := dApp_at (y := .int (a : Int)) o.get (by rw [bys_len]; omega)
  refine ⟨_, st_ifT (t_w rfl (by decide +kernel)) (st_expr ((bm1_ok (fo := eVar 3) (fe := eVar 4) rfl (isLst_obj o.get) rfl).trans e1)), ?_⟩
  rw [bys_app]
  exact o.set _
theorem ext_run {j : Nat} {acc m : List Nat} {R : List SP} {s s' : Sto} {fe : Ex} {env : En} (hv : env[3]? = some (some (.obj j))) (hz : acc.length + m.length ≤ 1000000) (o : Own (At j (.lst (bys acc)) :: R) s) (k : fe env s = .ok (.lst (bys m)) s') (o' : Own (At j (.lst (bys acc)) :: R) s') :
    ∃ s'', sExpr (eBm1 isLst dExt (eVar 3) fe) env s = .fl (.nx env) s'' ∧ Own (At j (.lst (bys (acc ++ m))) :: R) s'' := by
  have e1 := dExt_obj (y := .lst (bys m)) o'.get trkL_lst (by rw [bys_len, bys_len]; omega)
  refine ⟨_, st_expr ((bm1_ok (fo := eVar 3) (var_ok hv) (isLst_obj o.get) k).trans e1), ?_⟩
  rw [bys_app]
  exact o'.set _
theorem rest_drp {i : Nat} {l : List (List Nat)} {R : List SP} {s : Sto} (h : (Pz.drp i l).Ok) (o : Own R s) : ∃ d s', m_rest_bytes [(Pz.drp i l).d] s = .ok d s' ∧ Own (LsA d (bys (Pz.drp i l).rest) :: R) s' := by
  have e : (Pz.drp i l).d = .tup [.str (Str.ofString "drop"), .int (i : Nat), .tup (l.map fun x => .str (mkS x))] := rfl
  have hl := h.2.1.2
  have sm : ∀ a ∈ l, a.length ≤ 103 := fun a ha => (wish_sg (h.2.2 a ha)).2
  rw [e]
  refine rest_lst (g := txtB) (kw_oth (k := 10) (by omega)) (by omega) (fun a ha => by have := sm a ha; rw [txtB_len]; omega) (fun a ha acc p j s' hz o => ?_) o
  have := sm a ha
  obtain ⟨s1, q1, o1⟩ := ev_text (l := a) (by omega) o
  have k : (eCall m_text_bytes [eVar 4]) [p, some (.str (Str.ofString "drop")), none, some (.obj j), some (.str (mkS a)), none] s' = .ok (.lst (bys (txtB a))) s1 := (call1_ok rfl).trans q1
  obtain ⟨s2, q2, o2⟩ := ext_run rfl (by rw [txtB_len]; omega) o k o1
  exact ⟨s2, st_ifE (t_w rfl (by decide +kernel)) (st_ifT (t_w rfl (by decide +kernel)) q2), o2⟩
theorem rest_hea {i : Nat} {l : List (List Nat × Nat)} {R : List SP} {s : Sto} (h : (Pz.hea i l).Ok) (o : Own R s) : ∃ d s', m_rest_bytes [(Pz.hea i l).d] s = .ok d s' ∧ Own (LsA d (bys (Pz.hea i l).rest) :: R) s' := by
  have e : (Pz.hea i l).d = .tup [.str (Str.ofString "hear"), .int (i : Nat), .tup (l.map fun e => .tup [.str (mkS e.1), .int (e.2 : Nat)])] := by
    simp only [Pz.d, Pz.pk, Pk.d, List.map_map]
    rfl
  have hl := h.2.1.2
  have sm : ∀ a ∈ l, a.1.length ≤ 103 := fun a ha => (wish_sg (h.2.2 a ha).1).2
  rw [e]
  refine rest_lst (α := List Nat × Nat) (l := l) (f := fun e : List Nat × Nat => .tup [.str (mkS e.1), .int (e.2 : Nat)]) (g := fun e : List Nat × Nat => txtB e.1 ++ [e.2]) (kw_oth (k := 8) (by omega)) (by omega) (fun a ha => by have := sm a ha; rw [List.length_append, txtB_len]; simp only [List.length_cons, List.length_nil]; omega) (fun a ha acc p j s' hz o => ?_) o
  have := sm a ha
  obtain ⟨s1, q1, o1⟩ := ev_text (l := a.1) (by omega) o
  have x1 : (eCall m_text_bytes [eOp dIx (eVar 4) (eC (.int 0))]) [p, some (.str (Str.ofString "hear")), none, some (.obj j), some (.tup [.str (mkS a.1), .int (a.2 : Nat)]), none] s' = .ok (.lst (bys (txtB a.1))) s1 := (call1_ok rfl).trans q1
  have x2 : (eLst nwF [eOp dIx (eVar 4) (eC (.int 1))]) [p, some (.str (Str.ofString "hear")), none, some (.obj j), some (.tup [.str (mkS a.1), .int (a.2 : Nat)]), none] s1 = .ok (.lst (bys [a.2])) s1 := (lst1_ok rfl).trans rfl
  have k := (op_ok (op := dAdd nwF) x1 x2).trans (dAdd_ll (by rw [bys_len, bys_len, txtB_len]; simp only [List.length_cons, List.length_nil]; omega))
  rw [← bys_app] at k
  obtain ⟨s2, q2, o2⟩ := ext_run rfl (by rw [List.length_append, txtB_len]; simp only [List.length_cons, List.length_nil]; omega) o k o1
  exact ⟨s2, st_ifE (t_w rfl (by decide +kernel)) (st_ifE (t_w rfl (by decide +kernel)) q2), o2⟩
theorem ev_rest {p : Pz} {R : List SP} {s : Sto} (h : p.Ok) (o : Own R s) : ∃ d s', m_rest_bytes [p.d] s = .ok d s' ∧ Own (LsA d (bys p.rest) :: R) s' := by
  cases p with
  | con hh c w => exact rest_con (by have := (hearer_sg h.1).2; omega) (fun t e => (h.2 t e).sm) o
  | gre b => exact rest_gre o
  | say t ag i => exact rest_say h.1.sm o
  | one k i => exact rest_one h o
  | hea i l => exact rest_hea h o
  | hrd i l => exact rest_hrd h o
  | drp i l => exact rest_drp h o
  | nul k => exact rest_nul h o
/-! a packet is written -/
theorem dIn_idx {w : Str} {l : List Str} {s : Sto} : dIndex (.lst (l.map .str)) (.str w) s = ofO s ((l.findIdx? fun e => e == w).map fun (j : Nat) => .int j) := by
  unfold dIndex
  simp only [asL_lst]
  have hf : (flatD (.str w) && (l.map Dt.str).all flatD) = true := by simp [flatD]
  rw [if_pos hf, List.findIdx?_map]
  rfl
def kStr : List Str := c_KINDS ++ c_MORE_KINDS
def kOk (k : Nat) : Prop := 1 ≤ k ∧ k ≤ 14
theorem kind_ok {p : Pz} (h : p.Ok) : kOk p.kind := by
  cases p with
  | one k i => have : k = 4 ∨ k = 5 ∨ k = 6 ∨ k = 7 ∨ k = 11 := h.1; unfold kOk Pz.kind; simp only; omega
  | nul k => have : k = 12 ∨ k = 13 ∨ k = 14 := h; unfold kOk Pz.kind; simp only; omega
  | _ => unfold kOk Pz.kind; simp only; omega
theorem kind_idx {k : Nat} (h : kOk k) : (kStr.findIdx? fun e => e == Str.ofString (kw k)) = some k := by
  have : k = 1 ∨ k = 2 ∨ k = 3 ∨ k = 4 ∨ k = 5 ∨ k = 6 ∨ k = 7 ∨ k = 8 ∨ k = 9 ∨ k = 10 ∨ k = 11 ∨ k = 12 ∨ k = 13 ∨ k = 14 := by unfold kOk at h; omega
  rcases this with e | e | e | e | e | e | e | e | e | e | e | e | e | e <;> subst e <;> decide +kernel
theorem ev_kind {k : Nat} {s : Sto} (h : kOk k) : m_kind_number [.str (Str.ofString (kw k))] s = .ok (.int (k : Nat)) s := by
  have e := dIn_idx (w := Str.ofString (kw k)) (l := kStr) (s := s)
  rw [kind_idx h] at e
  unfold m_kind_number
  refine ws_chk ?_
  unfold b_kind_number
  refine ws_step (st_asg rfl) ?_
  refine ws_rt (d := .int (k : Nat)) (s1 := s) (st_ret ?_) and_rfl
  refine (bm1_ok (fo := eVar 1) (fe := eVar 0) rfl rfl rfl).trans ?_
  exact e
theorem pz_word (p : Pz) : ∃ r, p.d = .tup (.str (Str.ofString (kw p.kind)) :: r) := by
  cases p <;> exact ⟨_, rfl⟩
theorem pz_say {p : Pz} (h : p.Ok) : (Str.ofString (kw p.kind) == Str.ofString "say") = (p.kind == 3) := by
  have h2 := kind_ok h
  have : p.kind = 1 ∨ p.kind = 2 ∨ p.kind = 3 ∨ p.kind = 4 ∨ p.kind = 5 ∨ p.kind = 6 ∨ p.kind = 7 ∨ p.kind = 8 ∨ p.kind = 9 ∨ p.kind = 10 ∨ p.kind = 11 ∨ p.kind = 12 ∨ p.kind = 13 ∨ p.kind = 14 := by unfold kOk at h2; omega
  rcases this with e | e | e | e | e | e | e | e | e | e | e | e | e | e <;> rw [e] <;> decide +kernel
theorem flags_say {t : Tz} {ag : Bool} {i : Nat} {env : En} {s : Sto} (hv : env[0]? = some (some (.tup (sayZ t ag i)))) :
    (eOp (dAdd nwF) (eOp (dAdd nwF) (eOp dMul (eC (.int 8)) (eUn dInt (eOp dIx (eVar 0) (eC (.int 5))))) (eOp dMul (eC (.int 2)) (eOp dIx (eVar 0) (eC (.int 3))))) (eUn dInt (eOp dIx (eVar 0) (eC (.int 4))))) env s = .ok (.int ((Pz.say t ag i).flags : Nat)) s := by
  have v := var_ok (s := s) hv
  have a5 : (eOp dIx (eVar 0) (eC (.int 5))) env s = .ok (.bl ag) s := (op_ok v rfl).trans rfl
  have a3 : (eOp dIx (eVar 0) (eC (.int 3))) env s = .ok (.int (t.g : Nat)) s := (op_ok v rfl).trans rfl
  have a4 : (eOp dIx (eVar 0) (eC (.int 4))) env s = .ok (.bl t.k) s := (op_ok v rfl).trans rfl
  have x1 := (op_ok (op := dMul) (fa := eC (.int 8)) rfl ((un_ok a5).trans dint_b)).trans (mulL (by decide) (by decide))
  have x2 := (op_ok (op := dMul) (fa := eC (.int 2)) rfl a3).trans (mulL (by decide) (by decide))
  have x3 := (op_ok (op := dAdd nwF) x1 x2).trans dAdd_int
  have x4 := (op_ok (op := dAdd nwF) x3 ((un_ok a4).trans dint_b)).trans dAdd_int
  have e : 8 * (b2 ag : Int) + 2 * (t.g : Int) + (b2 t.k : Int) = (((Pz.say t ag i).flags : Nat) : Int) := by unfold Pz.flags; simp only; omega
  rw [e] at x4
  exact x4
theorem ev_written {p : Pz} {R : List SP} {s : Sto} (h : p.Ok) (o : Own R s) : ∃ s', m_written_packet [p.d] s = .ok (.lst (bys p.wr)) s' ∧ Own R s' := by
  obtain ⟨r, hr⟩ := pz_word p
  have g1 := look_ok h.pk s
  obtain ⟨d, s1, q1, o1⟩ := ev_rest h o
  refine ⟨s1, ?_, (Own.pm o1 (by repeat first | exact Pm.rfl | (apply Pm.cons; repeat first | exact Tk.hd | apply Tk.tl) | apply Pm.skip))⟩
  have hd : Pk.d p.pk = p.d := rfl
  rw [hd] at g1
  have f1 : u_written_packet_1 [some p.d, none, none] s = .fl (.nx [some p.d, none, none]) s := st_expr ((call1_ok rfl).trans g1)
  have f2 : u_written_packet_2 [some p.d, none, none] s = .fl (.nx [some p.d, some (.int 0), none]) s := st_asg rfl
  have v0 : (eOp dIx (eVar 0) (eC (.int 0))) [some p.d, some (.int 0), none] s = .ok (.str (Str.ofString (kw p.kind))) s := by
    rw [hr]
    exact (op_ok (fa := eVar 0) (fb := eC (.int 0)) rfl rfl).trans (by rw [dIx_tup, atI_zero]; rfl)
  have f3 : u_written_packet_3 [some p.d, some (.int 0), none] s = .fl (.nx [some p.d, some (.int (p.flags : Nat)), none]) s := by
    have t : (tBl (eOp dEq (eOp dIx (eVar 0) (eC (.int 0))) (eC (.str (Str.ofString "say"))))) [some p.d, some (.int 0), none] s = .ok (p.kind == 3) s := tBl_ok ((op_ok (fb := eC (.str (Str.ofString "say"))) v0 rfl).trans (dEq_w (pz_say h)))
    by_cases h3 : p.kind = 3
    · have : ∃ t ag i, p = .say t ag i := by
        cases p with
        | say tq ag i => exact ⟨tq, ag, i, rfl⟩
        | one k i =>
          have h4 : k = 4 ∨ k = 5 ∨ k = 6 ∨ k = 7 ∨ k = 11 := h.1
          have : k = 3 := h3
          omega
        | nul k =>
          have h4 : k = 12 ∨ k = 13 ∨ k = 14 := h
          have : k = 3 := h3
          omega
        | _ => cases h3
      obtain ⟨tt, ag, i, rfl⟩ := this
      exact st_ifT (t.trans rfl) (st_asg (flags_say rfl))
    · have hb : (p.kind == 3) = false := by simpa using h3
      rw [hb] at t
      have hz : p.flags = 0 := by
        cases p with
        | say t ag i => exact absurd rfl h3
        | _ => rfl
      rw [hz]
      exact st_ifF t
  have f4 : u_written_packet_4 [some p.d, some (.int (p.flags : Nat)), none] s = .fl (.nx [some p.d, some (.int (p.flags : Nat)), some d]) s1 := st_asg ((call1_ok rfl).trans q1)
  have f5 : u_written_packet_5 [some p.d, some (.int (p.flags : Nat)), some d] s1 = .fl (.rt (.lst (bys p.wr))) s1 := by
    have w0 : (eOp dIx (eVar 0) (eC (.int 0))) [some p.d, some (.int (p.flags : Nat)), some d] s1 = .ok (.str (Str.ofString (kw p.kind))) s1 := by
      rw [hr]
      exact (op_ok (fa := eVar 0) (fb := eC (.int 0)) rfl rfl).trans (by rw [dIx_tup, atI_zero]; rfl)
    have x1 := (op_ok (op := dMul) (fa := eC (.int 16)) rfl ((call1_ok w0).trans (ev_kind (kind_ok h)))).trans (mulL (by decide) (by decide))
    have x2 := (op_ok (op := dAdd nwF) (fb := eVar 1) x1 rfl).trans dAdd_int
    have x3 := lst1_ok (nw := nwF) x2
    have hb := rest_len h
    have tl := o1.trk
    have hl : dLen d s1 = .ok (.int (p.rest.length : Nat)) s1 := by
      rcases own_ls.mp o1 with ⟨e, _⟩ | ⟨j, e, o2⟩
      · rw [e, dLen_lst, bys_len]
      · rw [e, dLen_obj o2.get, bys_len]
    have y1 : (eCall m_length_bytes [eUn dLen (eVar 2)]) [some p.d, some (.int (p.flags : Nat)), some d] s1 = .ok (.lst (bys (lenB p.rest.length))) s1 := (call1_ok ((un_ok (fa := eVar 2) rfl).trans hl)).trans (ev_length_bytes _ _)
    have e0 : (16 * (p.kind : Int) + (p.flags : Int)) = ((16 * p.kind + p.flags : Nat) : Int) := by omega
    rw [e0] at x3
    have x3 : (eLst nwF [eOp (dAdd nwF) (eOp dMul (eC (.int 16)) (eCall m_kind_number [eOp dIx (eVar 0) (eC (.int 0))])) (eVar 1)]) [some p.d, some (.int (p.flags : Nat)), some d] s1 = .ok (.lst (bys [16 * p.kind + p.flags])) s1 := x3
    have ll : (lenB p.rest.length).length ≤ 2 := by unfold lenB; split <;> simp
    have z1 := (op_ok (op := dAdd nwF) x3 y1).trans (dAdd_ll (by rw [bys_len, bys_len]; simp only [List.length_cons, List.length_nil]; omega))
    rw [← bys_app] at z1
    have z2 := (op_ok (op := dAdd nwF) (fb := eVar 2) z1 rfl).trans (dAdd_any trkL_lst tl (by rw [bys_len, bys_len, List.length_append]; simp only [List.length_cons, List.length_nil]; omega))
    rw [show nwF (bys ([16 * p.kind + p.flags] ++ lenB p.rest.length) ++ bys p.rest) s1 = .ok (.lst (bys p.wr)) s1 from by rw [← bys_app]; rfl] at z2
    exact st_ret z2
  unfold m_written_packet
  refine ws_chk ?_
  unfold b_written_packet
  exact ws_step f1 (ws_step f2 (ws_step f3 (ws_step f4 (ws_rt f5 and_rfl))))
end Tx
namespace Tx
open PySem L2 Pd
/-! ### the law's own bytes -/
theorem ix2 {x y : Int} {b : Bool} {e : Ex} {env : En} {s : Sto} (h : e env s = .ok (.int (b2 b : Nat)) s) : (eOp dIx (eLst nwF [eC (.int x), eC (.int y)]) e) env s = .ok (.int (if b then y else x)) s := by
  refine (op_ok (fa := eLst nwF [eC (.int x), eC (.int y)]) rfl h).trans ?_
  cases b <;> rfl
theorem two_ite {b : Bool} : (if b then (2 : Int) else 0) = 2 * (b2 b : Int) := by cases b <;> rfl
theorem big_ite {b : Bool} : (if b then (32 : Int) else 0) = 32 * (b2 b : Int) := by cases b <;> rfl
theorem st_seqA {f : Ex} {g : Sx} {i : Nat} {env : En} {s s1 s2 : Sto} {d : Dt} {r : Fl} (h : f env s = .ok d s1) (k : g (env.set i (some d)) s1 = .fl r s2) : sSeq (sAsg f (gN i)) g env s = .fl r s2 := st_seqR (st_asg h) k
theorem st_seqRet {f g : Sx} {env : En} {s s1 : Sto} {d : Dt} (h : f env s = .fl (.rt d) s1) : sSeq f g env s = .fl (.rt d) s1 := by
  simp only [sSeq, h]
theorem notN_t {i : Nat} {d : Dt} {b : Bool} {env : En} {s : Sto} (hv : env[i]? = some (some d)) (hb : isNon d = b) : (tBl (eUn dIsN (eVar i))) env s = .ok b s := tBl_ok ((un_ok (var_ok hv)).trans (by rw [isN_def, hb]))
theorem lrest_con {h : List Nat} {c : Bool} {w : Option Tz} {s : Sto} (hh : h.length ≤ 1000) (hw : ∀ t, w = some t → t.Sm) :
    u_law_rest_2 [some (.tup [wS "connect", .str (mkS h), .bl c, optZ w]), some (wS "connect"), none, none, none, none, none, none] s = .fl (.rt (.lst (bys (Pz.con h c w).rest))) s := by
  refine st_ifT (s1 := s) (t_w rfl (by decide +kernel)) ?_
  have a2 : ∀ {x3 x4 : Option Dt}, (eUn dInt (eOp dIx (eVar 0) (eC (.int 2)))) [some (.tup [wS "connect", .str (mkS h), .bl c, optZ w]), some (wS "connect"), some (optZ w), x3, x4, none, none, none] s = .ok (.int (b2 c : Nat)) s := fun {x3 x4} => (un_ok ((op_ok (fa := eVar 0) (fb := eC (.int 2)) rfl rfl).trans rfl)).trans dint_b
  refine st_seqA (d := optZ w) rfl ?_
  refine st_seqA (d := .lst (bys (txtB h))) (s1 := s) ((call1_ok (fa := eOp dIx (eVar 0) (eC (.int 1))) rfl).trans (ev_counted (by omega))) ?_
  cases w with
  | none =>
    refine st_seqRet (st_ifR (s1 := s) (notN_t rfl rfl) ?_)
    have x1 := (lst1_ok (nw := nwF) (ix2 (x := 0) (y := 2) (a2 (x3 := some (.lst (bys (txtB h)))) (x4 := none))))
    rw [two_ite] at x1
    exact (op_ok (fa := eVar 3) rfl x1).trans ((dAdd_ll (by rw [bys_len, txtB_len]; simp only [List.length_cons, List.length_nil]; omega)).trans (by rw [show ([Dt.int (2 * (b2 c : Int))]) = bys [2 * b2 c] from rfl, ← bys_app]; rfl))
  | some t =>
    obtain ⟨h1, h2⟩ := hw t rfl
    refine st_seqR (st_ifF (s1 := s) (notN_t rfl rfl)) ?_
    have b0 := ix2 (x := 0) (y := 2) (a2 (x3 := some (.lst (bys (txtB h)))) (x4 := none))
    rw [two_ite] at b0
    have b1 := (op_ok (op := dAdd nwF) (fb := eC (.int 4)) b0 rfl).trans dAdd_int
    have y1 : (eOp dIx (eVar 2) (eC (.int 2))) [some (.tup [wS "connect", .str (mkS h), .bl c, t.td.d]), some (wS "connect"), some t.td.d, some (.lst (bys (txtB h))), none, none, none, none] s = .ok (.int (t.g : Nat)) s := rfl
    have y2 := (op_ok (op := dMul) (fa := eC (.int 8)) rfl y1).trans (mulL (by decide) (by decide))
    have b3 := (op_ok (op := dAdd nwF) b1 y2).trans dAdd_int
    have z1 : (eUn dInt (eOp dIx (eVar 2) (eC (.int 3)))) [some (.tup [wS "connect", .str (mkS h), .bl c, t.td.d]), some (wS "connect"), some t.td.d, some (.lst (bys (txtB h))), none, none, none, none] s = .ok (.int (b2 t.k : Nat)) s := dint_b
    have z2 := ix2 (x := 0) (y := 32) z1
    rw [big_ite] at z2
    have b4 := (op_ok (op := dAdd nwF) b3 z2).trans dAdd_int
    have e : 2 * (b2 c : Int) + 4 + 8 * (t.g : Int) + 32 * (b2 t.k : Int) = ((flagT c t : Nat) : Int) := by unfold flagT; omega
    rw [e] at b4
    refine st_seqA b4 ?_
    have d1 : (eCall m_law_counted [eOp dIx (eVar 2) (eC (.int 0))]) [some (.tup [wS "connect", .str (mkS h), .bl c, t.td.d]), some (wS "connect"), some t.td.d, some (.lst (bys (txtB h))), some (.int (flagT c t : Nat)), none, none, none] s = .ok (.lst (bys (txtB t.n))) s := (call1_ok rfl).trans (ev_counted (by omega))
    have d2 : (eCall m_law_counted [eOp dIx (eVar 2) (eC (.int 1))]) [some (.tup [wS "connect", .str (mkS h), .bl c, t.td.d]), some (wS "connect"), some t.td.d, some (.lst (bys (txtB h))), some (.int (flagT c t : Nat)), none, none, none] s = .ok (.lst (bys (txtB t.b))) s := (call1_ok rfl).trans (ev_counted (by omega))
    have l1 : (eLst nwF [eVar 4]) [some (.tup [wS "connect", .str (mkS h), .bl c, t.td.d]), some (wS "connect"), some t.td.d, some (.lst (bys (txtB h))), some (.int (flagT c t : Nat)), none, none, none] s = .ok (.lst (bys [flagT c t])) s := rfl
    have v1 := (op_ok (op := dAdd nwF) (fa := eVar 3) rfl l1).trans (dAdd_ll (by rw [bys_len, bys_len, txtB_len]; simp only [List.length_cons, List.length_nil]; omega))
    rw [← bys_app] at v1
    have v2 := (op_ok (op := dAdd nwF) v1 d1).trans (dAdd_ll (by rw [bys_len, bys_len, List.length_append, txtB_len, txtB_len]; simp only [List.length_cons, List.length_nil]; omega))
    rw [← bys_app] at v2
    have v3 := (op_ok (op := dAdd nwF) v2 d2).trans (dAdd_ll (by rw [bys_len, bys_len, List.length_append, List.length_append, txtB_len, txtB_len, txtB_len]; simp only [List.length_cons, List.length_nil]; omega))
    rw [← bys_app] at v3
    refine st_ret (v3.trans ?_)
    have : txtB h ++ [flagT c t] ++ txtB t.n ++ txtB t.b = (Pz.con h c (some t)).rest := by simp [Pz.rest, willB]
    rw [this]
theorem lrest_gre {b : Bool} {s : Sto} : u_law_rest_3 [some (.tup [wS "greeted", .bl b]), some (wS "greeted"), none, none, none, none, none, none] s = .fl (.rt (.lst (bys (Pz.gre b).rest))) s := by
  have a : (eUn dInt (eOp dIx (eVar 0) (eC (.int 1)))) [some (.tup [wS "greeted", .bl b]), some (wS "greeted"), none, none, none, none, none, none] s = .ok (.int (b2 b : Nat)) s := dint_b
  exact st_ifR (s1 := s) (t_w rfl (by decide +kernel)) (lst1_ok (nw := nwF) a)
theorem num_ll {e : Ex} {n : Nat} {env : En} {s : Sto} (h : ∀ {s : Sto}, e env s = .ok (.int (n : Nat)) s) : (eLst nwF [eOp dFdv e (eC (.int 256)), eOp dMod e (eC (.int 256))]) env s = .ok (.lst (bys (num2 n))) s := by
  have e1 : (n : Int) / 256 = ((n / 256 : Nat) : Int) := by omega
  have e2 : (n : Int) % 256 = ((n % 256 : Nat) : Int) := by omega
  have c : ∀ {s : Sto}, (eC (.int 256)) env s = .ok (.int 256) s := fun {s} => rfl
  rw [lst2_ok ((op_ok h c).trans fdv256) ((op_ok h c).trans mod256), e1, e2]
  rfl
theorem lrest_say {t : Tz} {ag : Bool} {i : Nat} {s : Sto} (h : t.Sm) : u_law_rest_4 [some (.tup (sayZ t ag i)), some (wS "say"), none, none, none, none, none, none] s = .fl (.rt (.lst (bys (Pz.say t ag i).rest))) s := by
  obtain ⟨h1, h2⟩ := h
  refine st_ifT (s1 := s) (t_w rfl (by decide +kernel)) ?_
  have hn : (eIf (tBl (eOp dGt (eOp dIx (eVar 0) (eC (.int 3))) (eC (.int 0)))) (eLst nwF [eOp dFdv (eOp dIx (eVar 0) (eC (.int 6))) (eC (.int 256)), eOp dMod (eOp dIx (eVar 0) (eC (.int 6))) (eC (.int 256))]) (eLst nwF [])) [some (.tup (sayZ t ag i)), some (wS "say"), none, none, none, none, none, none] s = .ok (.lst (bys (numO t.g i))) s := by
    have k : (tBl (eOp dGt (eOp dIx (eVar 0) (eC (.int 3))) (eC (.int 0)))) [some (.tup (sayZ t ag i)), some (wS "say"), none, none, none, none, none, none] s = .ok (decide (0 < t.g)) s := gt0 rfl
    rw [ex_if k]
    by_cases h3 : 0 < t.g
    · rw [decide_eq_true h3, if_pos rfl, numO, if_pos h3]
      exact num_ll (e := eOp dIx (eVar 0) (eC (.int 6))) (fun {s} => rfl)
    · rw [decide_eq_false h3, if_neg (by decide), numO, if_neg h3]
      rfl
  refine st_seqA hn ?_
  have ln := numO_le t.g i
  have d1 : (eCall m_law_counted [eOp dIx (eVar 0) (eC (.int 1))]) [some (.tup (sayZ t ag i)), some (wS "say"), none, none, none, some (.lst (bys (numO t.g i))), none, none] s = .ok (.lst (bys (txtB t.n))) s := (call1_ok rfl).trans (ev_counted (by omega))
  have d2 : (eCall m_law_codes [eOp dIx (eVar 0) (eC (.int 2))]) [some (.tup (sayZ t ag i)), some (wS "say"), none, none, none, some (.lst (bys (numO t.g i))), none, none] s = .ok (.lst (bys t.b)) s := (call1_ok rfl).trans ev_codes
  have v1 := (op_ok (op := dAdd nwF) (fb := eVar 5) d1 rfl).trans (dAdd_ll (by rw [bys_len, bys_len, txtB_len]; omega))
  rw [← bys_app] at v1
  have v2 := (op_ok (op := dAdd nwF) v1 d2).trans (dAdd_ll (by rw [bys_len, bys_len, List.length_append, txtB_len]; omega))
  rw [← bys_app] at v2
  exact st_ret v2
theorem loth {w : Str} {r : List Dt} {s : Sto} (h : othW w) : u_law_rest_1 [some (.tup (.str w :: r)), none, none, none, none, none, none, none] s = .fl (.nx [some (.tup (.str w :: r)), some (.str w), none, none, none, none, none, none]) s ∧
    u_law_rest_2 [some (.tup (.str w :: r)), some (.str w), none, none, none, none, none, none] s = .fl (.nx [some (.tup (.str w :: r)), some (.str w), none, none, none, none, none, none]) s ∧
    u_law_rest_3 [some (.tup (.str w :: r)), some (.str w), none, none, none, none, none, none] s = .fl (.nx [some (.tup (.str w :: r)), some (.str w), none, none, none, none, none, none]) s ∧
    u_law_rest_4 [some (.tup (.str w :: r)), some (.str w), none, none, none, none, none, none] s = .fl (.nx [some (.tup (.str w :: r)), some (.str w), none, none, none, none, none, none]) s :=
  ⟨st_asg ((op_ok (fa := eVar 0) (fb := eC (.int 0)) rfl rfl).trans (by rw [dIx_tup, atI_zero]; rfl)), st_ifF (t_w rfl h.1), st_ifF (t_w rfl h.2.1), st_ifF (t_w rfl h.2.2)⟩
theorem len_gt {i n : Nat} {k : Int} {l : List Dt} {env : En} {s : Sto} {b : Bool} (hv : env[i]? = some (some (.tup l))) (hl : l.length = n) (h : decide (k < (n : Int)) = b) : (tBl (eOp dGt (eUn dLen (eVar i)) (eC (.int k)))) env s = .ok b s := by
  subst hl
  have e : (eUn dLen (eVar i)) env s = .ok (.int (l.length : Int)) s := (un_ok (var_ok hv)).trans rfl
  refine tBl_ok ((op_ok (fb := eC (.int k)) e rfl).trans ?_)
  subst h
  by_cases h2 : k < (l.length : Int)
  · simp only [runR, Nat.reduceAdd, Nat.reduceSub, Int.reduceBEq, Int.reduceEq, Int.reduceLT, Int.reduceLE, Int.reduceNeg, Int.reduceAdd, Int.reduceSub, Int.reduceMul, Int.reduceToNat, Nat.reduceLT, Nat.reduceLeDiff, reduceIte, Int.reduceNe, Int.reduceBNe, String.reduceBEq, dGt, h2]
  · simp only [runR, Nat.reduceAdd, Nat.reduceSub, Int.reduceBEq, Int.reduceEq, Int.reduceLT, Int.reduceLE, Int.reduceNeg, Int.reduceAdd, Int.reduceSub, Int.reduceMul, Int.reduceToNat, Nat.reduceLT, Nat.reduceLeDiff, reduceIte, Int.reduceNe, Int.reduceBNe, String.reduceBEq, dGt, h2]
theorem lrest_goW {p : Dt} {s : Sto} {env e2 : En} {Q : Dt → Sto → Prop} (h : u_law_rest_1 [some p, none, none, none, none, none, none, none] s = .fl (.nx env) s) (h2 : u_law_rest_2 env s = .fl (.nx env) s) (h3 : u_law_rest_3 env s = .fl (.nx env) s) (h4 : u_law_rest_4 env s = .fl (.nx env) s) (h5 : u_law_rest_5 env s = .fl (.nx e2) s)
    (k : WS (sSeq u_law_rest_6 u_law_rest_7) ⟨fun _ s => Q .non s, Q, fun _ _ => False, fun _ _ => False, fun c _ s => noX c s⟩ e2 s) : WO (m_law_rest [p] s) Q noX := by
  unfold m_law_rest
  refine wf_fn ?_
  unfold b_law_rest
  exact ws_step h (ws_step h2 (ws_step h3 (ws_step h4 (ws_step h5 k))))
theorem lrest_out {p d : Dt} {s : Sto} {env : En} (h : u_law_rest_1 [some p, none, none, none, none, none, none, none] s = .fl (.nx env) s) (k : u_law_rest_2 env s = .fl (.rt d) s ∨ u_law_rest_2 env s = .fl (.nx env) s ∧ u_law_rest_3 env s = .fl (.rt d) s ∨ u_law_rest_2 env s = .fl (.nx env) s ∧ u_law_rest_3 env s = .fl (.nx env) s ∧ u_law_rest_4 env s = .fl (.rt d) s) : m_law_rest [p] s = .ok d s := by
  unfold m_law_rest
  refine ws_chk ?_
  unfold b_law_rest
  rcases k with k | ⟨k1, k2⟩ | ⟨k1, k2, k3⟩
  · exact ws_step h (ws_out k and_rfl)
  · exact ws_step h (ws_step k1 (ws_out k2 and_rfl))
  · exact ws_step h (ws_step k1 (ws_step k2 (ws_out k3 and_rfl)))
theorem lrest_nul {k : Nat} {s : Sto} (h : (Pz.nul k).Ok) : m_law_rest [(Pz.nul k).d] s = .ok (.lst (bys (Pz.nul k).rest)) s := by
  have hw : othW (Str.ofString (kw k)) := kw_oth (by have : k = 12 ∨ k = 13 ∨ k = 14 := h; omega)
  obtain ⟨f1, f2, f3, f4⟩ := loth (r := []) (s := s) hw
  have f5 : u_law_rest_5 [some (.tup [.str (Str.ofString (kw k))]), some (.str (Str.ofString (kw k))), none, none, none, none, none, none] s = .fl (.nx [some (.tup [.str (Str.ofString (kw k))]), some (.str (Str.ofString (kw k))), none, none, none, none, some (.lst []), none]) s := by
    refine st_asg ?_
    rw [ex_if (len_gt (n := 1) (b := false) rfl rfl (by decide))]
    rfl
  have hi : (iSeq (eIf (tBl (eOp dGt (eUn dLen (eVar 0)) (eC (.int 2)))) (eOp dIx (eVar 0) (eC (.int 2))) (eTup []))) [some (.tup [.str (Str.ofString (kw k))]), some (.str (Str.ofString (kw k))), none, none, none, none, some (.lst []), none] s = .ok ([], fun s' => asQ s' (.tup []) = some []) s := by
    rw [ev_iSeq]
    unfold bnd
    rw [ex_if (len_gt (n := 1) (b := false) (l := [.str (Str.ofString (kw k))]) rfl rfl (by decide))]
    rfl
  have f6 : u_law_rest_6 [some (.tup [.str (Str.ofString (kw k))]), some (.str (Str.ofString (kw k))), none, none, none, none, some (.lst []), none] s = .fl (.nx [some (.tup [.str (Str.ofString (kw k))]), some (.str (Str.ofString (kw k))), none, none, none, none, some (.lst []), none]) s := by
    unfold u_law_rest_6
    rw [ev_for, sBnd_def, hi]
    simp only [forGo]
    rw [if_pos asQ_tup]
  obtain ⟨d, s', e, rfl, rfl⟩ := wo_iff (lrest_goW (Q := fun d z => d = .lst [] ∧ z = s) f1 f2 f3 f4 f5 (ws_step f6 (ws_rt (f := u_law_rest_7) (st_ret rfl) ⟨rfl, rfl⟩)))
  exact e
theorem lrest_one {k i : Nat} {s : Sto} (h : (Pz.one k i).Ok) : m_law_rest [(Pz.one k i).d] s = .ok (.lst (bys (Pz.one k i).rest)) s := by
  have hw : othW (Str.ofString (kw k)) := kw_oth (by have : k = 4 ∨ k = 5 ∨ k = 6 ∨ k = 7 ∨ k = 11 := h.1; omega)
  obtain ⟨f1, f2, f3, f4⟩ := loth (r := [.int (i : Nat)]) (s := s) hw
  have f5 : u_law_rest_5 [some (.tup [.str (Str.ofString (kw k)), .int (i : Nat)]), some (.str (Str.ofString (kw k))), none, none, none, none, none, none] s = .fl (.nx [some (.tup [.str (Str.ofString (kw k)), .int (i : Nat)]), some (.str (Str.ofString (kw k))), none, none, none, none, some (.lst (bys (num2 i))), none]) s := by
    refine st_asg ?_
    rw [ex_if (len_gt (n := 2) (b := true) rfl rfl (by decide)), if_pos rfl]
    exact num_ll (e := eOp dIx (eVar 0) (eC (.int 1))) (fun {s} => rfl)
  have hi : (iSeq (eIf (tBl (eOp dGt (eUn dLen (eVar 0)) (eC (.int 2)))) (eOp dIx (eVar 0) (eC (.int 2))) (eTup []))) [some (.tup [.str (Str.ofString (kw k)), .int (i : Nat)]), some (.str (Str.ofString (kw k))), none, none, none, none, some (.lst (bys (num2 i))), none] s = .ok ([], fun s' => asQ s' (.tup []) = some []) s := by
    rw [ev_iSeq]
    unfold bnd
    rw [ex_if (len_gt (n := 2) (b := false) (l := [.str (Str.ofString (kw k)), .int (i : Nat)]) rfl rfl (by decide))]
    rfl
  have f6 : u_law_rest_6 [some (.tup [.str (Str.ofString (kw k)), .int (i : Nat)]), some (.str (Str.ofString (kw k))), none, none, none, none, some (.lst (bys (num2 i))), none] s = .fl (.nx [some (.tup [.str (Str.ofString (kw k)), .int (i : Nat)]), some (.str (Str.ofString (kw k))), none, none, none, none, some (.lst (bys (num2 i))), none]) s := by
    unfold u_law_rest_6
    rw [ev_for, sBnd_def, hi]
    simp only [forGo]
    rw [if_pos asQ_tup]
  obtain ⟨d, s', e, rfl, rfl⟩ := wo_iff (lrest_goW (Q := fun d z => d = .lst (bys (num2 i)) ∧ z = s) f1 f2 f3 f4 f5 (ws_step f6 (ws_rt (f := u_law_rest_7) (st_ret rfl) ⟨rfl, rfl⟩)))
  exact e
theorem lrest_lst {w : Str} (hw : othW w) {i : Nat} {α : Type} {l : List α} {f : α → Dt} {g : α → List Nat} (hl : l.length ≤ 100) (hg : ∀ a ∈ l, (g a).length ≤ 3000) {s : Sto}
    (turn : ∀ a ∈ l, ∀ (acc : List Nat) (p : Option Dt), acc.length ≤ 500000 → l_law_rest_1 [p, some (.str w), none, none, none, none, some (.lst (bys acc)), some (f a)] s = .fl (.nx [p, some (.str w), none, none, none, none, some (.lst (bys (acc ++ g a))), some (f a)]) s) :
    m_law_rest [.tup [.str w, .int (i : Nat), .tup (l.map f)]] s = .ok (.lst (bys (num2 i ++ l.flatMap g))) s := by
  obtain ⟨f1, f2, f3, f4⟩ := loth (r := [.int (i : Nat), .tup (l.map f)]) (s := s) hw
  have f5 : u_law_rest_5 [some (.tup [.str w, .int (i : Nat), .tup (l.map f)]), some (.str w), none, none, none, none, none, none] s = .fl (.nx [some (.tup [.str w, .int (i : Nat), .tup (l.map f)]), some (.str w), none, none, none, none, some (.lst (bys (num2 i))), none]) s := by
    refine st_asg ?_
    rw [ex_if (len_gt (n := 3) (b := true) rfl rfl (by decide)), if_pos rfl]
    exact num_ll (e := eOp dIx (eVar 0) (eC (.int 1))) (fun {s} => rfl)
  suffices k : WO (m_law_rest [.tup [.str w, .int (i : Nat), .tup (l.map f)]] s) (fun d s' => d = .lst (bys (num2 i ++ l.flatMap g)) ∧ s' = s) noX by
    obtain ⟨d, s', e, rfl, rfl⟩ := wo_iff k
    exact e
  refine lrest_goW f1 f2 f3 f4 f5 ?_
  refine ws_seq ?_
  unfold u_law_rest_6
  have hi : (iSeq (eIf (tBl (eOp dGt (eUn dLen (eVar 0)) (eC (.int 2)))) (eOp dIx (eVar 0) (eC (.int 2))) (eTup []))) [some (.tup [.str w, .int (i : Nat), .tup (l.map f)]), some (.str w), none, none, none, none, some (.lst (bys (num2 i))), none] s = .ok (l.map f, fun s' => asQ s' (.tup (l.map f)) = some (l.map f)) s := by
    rw [ev_iSeq]
    unfold bnd
    rw [ex_if (len_gt (n := 3) (b := true) (l := [.str w, .int (i : Nat), .tup (l.map f)]) rfl rfl (by decide))]
    rfl
  refine ws_for (f := f) [6, 7] (fun pre xs s' => s' = s ∧ ∃ x, xs = [some (.lst (bys (num2 i ++ pre.flatMap g))), x]) hi rfl ⟨rfl, none, by rw [List.flatMap_nil, List.append_nil]; rfl⟩ ?_ ?_
  · rintro pre a post xs s' hall hx ⟨rfl, x, rfl⟩
    refine ⟨rfl, _, rfl, ?_⟩
    have h1 := flat_len (f := g) (m := 3000) (l := pre) fun b hb => hg b (by rw [hall]; simp [hb])
    have h2 := congrArg List.length hall
    rw [List.length_append, List.length_cons] at h2
    have t := turn a (by rw [hall]; simp) (num2 i ++ pre.flatMap g) (some (.tup [.str w, .int (i : Nat), .tup (l.map f)])) (by rw [List.length_append]; simp only [num2, List.length_cons, List.length_nil]; omega)
    refine ws_nx t ⟨[_, _], rfl, rfl, rfl, some (f a), ?_⟩
    rw [List.flatMap_append, List.flatMap_singleton, List.append_assoc]
  · rintro xs s' hx ⟨rfl, x, rfl⟩
    refine ⟨rfl, ?_⟩
    dsimp only
    refine ws_rt (f := u_law_rest_7) (d := .lst (bys (num2 i ++ l.flatMap g))) (s1 := s') ?_ ?_
    · exact st_ret rfl
    · exact ⟨rfl, rfl⟩
theorem lrest_hrd {i : Nat} {l : List Nat} {s : Sto} (h : (Pz.hrd i l).Ok) : m_law_rest [(Pz.hrd i l).d] s = .ok (.lst (bys (Pz.hrd i l).rest)) s := by
  have e : (Pz.hrd i l).d = .tup [.str (Str.ofString "heard"), .int (i : Nat), .tup (l.map fun n : Nat => .int (n : Int))] := by
    simp only [Pz.d, Pz.pk, Pk.d, List.map_map]
    rfl
  have z : (Pz.hrd i l).rest = num2 i ++ l.flatMap fun n => [n] := by
    simp only [Pz.rest, List.flatMap_singleton']
  rw [e, z]
  have hl := h.2.1.2
  refine lrest_lst (α := Nat) (l := l) (f := fun n : Nat => .int (n : Int)) (g := fun n => [n]) (kw_oth (k := 9) (by omega)) (by omega) (fun a _ => by simp) (fun a ha acc p hz => ?_)
  refine st_ifT (t_w rfl (by decide +kernel)) (st_asg ?_)
  refine (op_ok (fa := eVar 6) (fb := eLst nwF [eVar 7]) rfl rfl).trans ((dAdd_ll (by rw [bys_len]; simp only [List.length_cons, List.length_nil]; omega)).trans ?_)
  rw [show ([Dt.int (a : Int)]) = bys [a] from rfl, ← bys_app]
theorem lrest_drp {i : Nat} {l : List (List Nat)} {s : Sto} (h : (Pz.drp i l).Ok) : m_law_rest [(Pz.drp i l).d] s = .ok (.lst (bys (Pz.drp i l).rest)) s := by
  have e : (Pz.drp i l).d = .tup [.str (Str.ofString "drop"), .int (i : Nat), .tup (l.map fun x => .str (mkS x))] := rfl
  have hl := h.2.1.2
  have sm : ∀ a ∈ l, a.length ≤ 103 := fun a ha => (wish_sg (h.2.2 a ha)).2
  rw [e]
  refine lrest_lst (α := List Nat) (l := l) (f := fun x => .str (mkS x)) (g := txtB) (kw_oth (k := 10) (by omega)) (by omega) (fun a ha => by have := sm a ha; rw [txtB_len]; omega) (fun a ha acc p hz => ?_)
  have := sm a ha
  refine st_ifE (t_w rfl (by decide +kernel)) (st_asg ?_)
  have k : (eIf (tBl (eOp dEq (eVar 1) (eC (.str (Str.ofString "drop"))))) (eCall m_law_counted [eVar 7]) (eOp (dAdd nwF) (eCall m_law_counted [eOp dIx (eVar 7) (eC (.int 0))]) (eLst nwF [eOp dIx (eVar 7) (eC (.int 1))]))) [p, some (.str (Str.ofString "drop")), none, none, none, none, some (.lst (bys acc)), some (.str (mkS a))] s = .ok (.lst (bys (txtB a))) s := by
    rw [ex_if (t_w (w := Str.ofString "drop") (b := true) rfl (by decide +kernel)), if_pos rfl]
    exact (call1_ok rfl).trans (ev_counted (by omega))
  refine (op_ok (fa := eVar 6) rfl k).trans ((dAdd_ll (by rw [bys_len, bys_len, txtB_len]; omega)).trans ?_)
  rw [← bys_app]
theorem lrest_hea {i : Nat} {l : List (List Nat × Nat)} {s : Sto} (h : (Pz.hea i l).Ok) : m_law_rest [(Pz.hea i l).d] s = .ok (.lst (bys (Pz.hea i l).rest)) s := by
  have e : (Pz.hea i l).d = .tup [.str (Str.ofString "hear"), .int (i : Nat), .tup (l.map fun e => .tup [.str (mkS e.1), .int (e.2 : Nat)])] := by
    simp only [Pz.d, Pz.pk, Pk.d, List.map_map]
    rfl
  have hl := h.2.1.2
  have sm : ∀ a ∈ l, a.1.length ≤ 103 := fun a ha => (wish_sg (h.2.2 a ha).1).2
  rw [e]
  refine lrest_lst (α := List Nat × Nat) (l := l) (f := fun e : List Nat × Nat => .tup [.str (mkS e.1), .int (e.2 : Nat)]) (g := fun e : List Nat × Nat => txtB e.1 ++ [e.2]) (kw_oth (k := 8) (by omega)) (by omega) (fun a ha => by have := sm a ha; rw [List.length_append, txtB_len]; simp only [List.length_cons, List.length_nil]; omega) (fun a ha acc p hz => ?_)
  have := sm a ha
  refine st_ifE (t_w rfl (by decide +kernel)) (st_asg ?_)
  have k : (eIf (tBl (eOp dEq (eVar 1) (eC (.str (Str.ofString "drop"))))) (eCall m_law_counted [eVar 7]) (eOp (dAdd nwF) (eCall m_law_counted [eOp dIx (eVar 7) (eC (.int 0))]) (eLst nwF [eOp dIx (eVar 7) (eC (.int 1))]))) [p, some (.str (Str.ofString "hear")), none, none, none, none, some (.lst (bys acc)), some (.tup [.str (mkS a.1), .int (a.2 : Nat)])] s = .ok (.lst (bys (txtB a.1 ++ [a.2]))) s := by
    rw [ex_if (t_w (w := Str.ofString "hear") (b := false) rfl (by decide +kernel)), if_neg (by decide)]
    have x1 : (eCall m_law_counted [eOp dIx (eVar 7) (eC (.int 0))]) [p, some (.str (Str.ofString "hear")), none, none, none, none, some (.lst (bys acc)), some (.tup [.str (mkS a.1), .int (a.2 : Nat)])] s = .ok (.lst (bys (txtB a.1))) s := (call1_ok rfl).trans (ev_counted (by omega))
    have x2 : (eLst nwF [eOp dIx (eVar 7) (eC (.int 1))]) [p, some (.str (Str.ofString "hear")), none, none, none, none, some (.lst (bys acc)), some (.tup [.str (mkS a.1), .int (a.2 : Nat)])] s = .ok (.lst (bys [a.2])) s := (lst1_ok rfl).trans rfl
    have k := (op_ok (op := dAdd nwF) x1 x2).trans (dAdd_ll (by rw [bys_len, bys_len, txtB_len]; simp only [List.length_cons, List.length_nil]; omega))
    rw [← bys_app] at k
    exact k
  refine (op_ok (fa := eVar 6) rfl k).trans ((dAdd_ll (by rw [bys_len, bys_len, List.length_append, txtB_len]; simp only [List.length_cons, List.length_nil]; omega)).trans ?_)
  rw [← bys_app]
theorem ev_lrest {p : Pz} {s : Sto} (h : p.Ok) : m_law_rest [p.d] s = .ok (.lst (bys p.rest)) s := by
  cases p with
  | con hh c w =>
    have f1 : u_law_rest_1 [some (.tup [wS "connect", .str (mkS hh), .bl c, optZ w]), none, none, none, none, none, none, none] s = .fl (.nx [some (.tup [wS "connect", .str (mkS hh), .bl c, optZ w]), some (wS "connect"), none, none, none, none, none, none]) s := st_asg rfl
    rw [con_d]
    exact lrest_out f1 (.inl (lrest_con (by have := (hearer_sg h.1).2; omega) (fun t e => (h.2 t e).sm)))
  | gre b =>
    have f1 : u_law_rest_1 [some (.tup [wS "greeted", .bl b]), none, none, none, none, none, none, none] s = .fl (.nx [some (.tup [wS "greeted", .bl b]), some (wS "greeted"), none, none, none, none, none, none]) s := st_asg rfl
    rw [gre_d]
    exact lrest_out f1 (.inr (.inl ⟨st_ifF (t_w rfl (by decide +kernel)), lrest_gre⟩))
  | say t ag i =>
    have f1 : u_law_rest_1 [some (.tup (sayZ t ag i)), none, none, none, none, none, none, none] s = .fl (.nx [some (.tup (sayZ t ag i)), some (wS "say"), none, none, none, none, none, none]) s := st_asg rfl
    rw [say_d]
    exact lrest_out f1 (.inr (.inr ⟨st_ifF (t_w rfl (by decide +kernel)), st_ifF (t_w rfl (by decide +kernel)), lrest_say h.1.sm⟩))
  | one k i => exact lrest_one h
  | hea i l => exact lrest_hea h
  | hrd i l => exact lrest_hrd h
  | drp i l => exact lrest_drp h
  | nul k => exact lrest_nul h
def lkw : List Str := [Str.ofString "connect", Str.ofString "greeted", Str.ofString "say", Str.ofString "got", Str.ofString "held", Str.ofString "free", Str.ofString "done", Str.ofString "hear", Str.ofString "heard", Str.ofString "drop", Str.ofString "dropped", Str.ofString "ping"]
theorem lkind_idx {k : Nat} (h : kOk k) : ((lkw ++ [Str.ofString "pong", Str.ofString "leave"]).findIdx? fun e => e == Str.ofString (kw k)) = some (k - 1) := by
  have : k = 1 ∨ k = 2 ∨ k = 3 ∨ k = 4 ∨ k = 5 ∨ k = 6 ∨ k = 7 ∨ k = 8 ∨ k = 9 ∨ k = 10 ∨ k = 11 ∨ k = 12 ∨ k = 13 ∨ k = 14 := by unfold kOk at h; omega
  rcases this with e | e | e | e | e | e | e | e | e | e | e | e | e | e <;> subst e <;> decide +kernel
theorem mod128 {n : Int} {s : Sto} : dMod (.int n) (.int 128) s = .ok (.int (n % 128)) s := by
  have e : decide (0 < (128 : Int)) = true := by decide
  simp only [iOp_int, e, if_true]
theorem lflags {t : Tz} {ag : Bool} {i : Nat} {z : Nat} {env : En} {s : Sto} (hv : env[0]? = some (some (.tup (sayZ t ag i)))) (h2 : env[2]? = some (some (.int (z : Nat)))) :
    (eOp (dAdd nwF) (eOp (dAdd nwF) (eOp (dAdd nwF) (eVar 2) (eOp dMul (eC (.int 8)) (eUn dInt (eOp dIx (eVar 0) (eC (.int 5)))))) (eOp dMul (eC (.int 2)) (eOp dIx (eVar 0) (eC (.int 3))))) (eUn dInt (eOp dIx (eVar 0) (eC (.int 4))))) env s = .ok (.int ((z + (Pz.say t ag i).flags : Nat) : Nat)) s := by
  have v := var_ok (s := s) hv
  have a5 : (eOp dIx (eVar 0) (eC (.int 5))) env s = .ok (.bl ag) s := (op_ok v rfl).trans rfl
  have a3 : (eOp dIx (eVar 0) (eC (.int 3))) env s = .ok (.int (t.g : Nat)) s := (op_ok v rfl).trans rfl
  have a4 : (eOp dIx (eVar 0) (eC (.int 4))) env s = .ok (.bl t.k) s := (op_ok v rfl).trans rfl
  have x1 := (op_ok (op := dMul) (fa := eC (.int 8)) rfl ((un_ok a5).trans dint_b)).trans (mulL (by decide) (by decide))
  have x1 := (op_ok (op := dAdd nwF) (var_ok h2) x1).trans dAdd_int
  have x2 := (op_ok (op := dMul) (fa := eC (.int 2)) rfl a3).trans (mulL (by decide) (by decide))
  have x3 := (op_ok (op := dAdd nwF) x1 x2).trans dAdd_int
  have x4 := (op_ok (op := dAdd nwF) x3 ((un_ok a4).trans dint_b)).trans dAdd_int
  have e : (z : Int) + 8 * (b2 ag : Int) + 2 * (t.g : Int) + (b2 t.k : Int) = ((z + (Pz.say t ag i).flags : Nat) : Int) := by unfold Pz.flags; simp only; omega
  rw [e] at x4
  exact x4
theorem lt128 {i m : Nat} {env : En} {s : Sto} (hv : env[i]? = some (some (.int (m : Nat)))) : (tBl (eOp dLt (eVar i) (eC (.int 128)))) env s = .ok (decide (m < 128)) s := by
  refine tBl_ok ((op_ok (fb := eC (.int 128)) (var_ok hv) rfl).trans ?_)
  by_cases h : m < 128
  · have h1 : (m : Int) < 128 := by omega
    simp only [runR, Nat.reduceAdd, Nat.reduceSub, Int.reduceBEq, Int.reduceEq, Int.reduceLT, Int.reduceLE, Int.reduceNeg, Int.reduceAdd, Int.reduceSub, Int.reduceMul, Int.reduceToNat, Nat.reduceLT, Nat.reduceLeDiff, reduceIte, Int.reduceNe, Int.reduceBNe, String.reduceBEq, dLt, h1, h]
  · have h1 : ¬ (m : Int) < 128 := by omega
    simp only [runR, Nat.reduceAdd, Nat.reduceSub, Int.reduceBEq, Int.reduceEq, Int.reduceLT, Int.reduceLE, Int.reduceNeg, Int.reduceAdd, Int.reduceSub, Int.reduceMul, Int.reduceToNat, Nat.reduceLT, Nat.reduceLeDiff, reduceIte, Int.reduceNe, Int.reduceBNe, String.reduceBEq, dLt, h1, h]
theorem ev_lbytes {p : Pz} {s : Sto} (h : p.Ok) : m_law_bytes [p.d] s = .ok (.lst (bys p.wr)) s := by
  obtain ⟨r, hr⟩ := pz_word p
  have hk := kind_ok h
  have hl := ev_lrest (s := s) h
  have hb := rest_len h
  have w0 : ∀ {x1 x2 x3 x4 : Option Dt} {s : Sto}, (eOp dIx (eVar 0) (eC (.int 0))) [some p.d, x1, x2, x3, x4] s = .ok (.str (Str.ofString (kw p.kind))) s := fun {x1 x2 x3 x4 s} => by
    rw [hr]
    exact (op_ok (fa := eVar 0) (fb := eC (.int 0)) rfl rfl).trans (by rw [dIx_tup, atI_zero]; rfl)
  unfold m_law_bytes
  refine ws_chk ?_
  unfold b_law_bytes
  refine ws_step (e := [some p.d, some (.lst (lkw.map Dt.str)), none, none, none]) (st_asg rfl) ?_
  have c1 : (eOp dMul (eC (.int 16)) (eOp (dAdd nwF) (eC (.int 1)) (eBm1 isLst dIndex (eOp (dAdd nwF) (eVar 1) (eLst nwF [eC (.str (Str.ofString "pong")), eC (.str (Str.ofString "leave"))])) (eOp dIx (eVar 0) (eC (.int 0)))))) [some p.d, some (.lst (lkw.map Dt.str)), none, none, none] s = .ok (.int ((16 * p.kind : Nat) : Nat)) s := by
    have y1 : (eOp (dAdd nwF) (eVar 1) (eLst nwF [eC (.str (Str.ofString "pong")), eC (.str (Str.ofString "leave"))])) [some p.d, some (.lst (lkw.map Dt.str)), none, none, none] s = .ok (.lst ((lkw ++ [Str.ofString "pong", Str.ofString "leave"]).map Dt.str)) s :=
      (op_ok (fa := eVar 1) (fb := eLst nwF [eC (.str (Str.ofString "pong")), eC (.str (Str.ofString "leave"))]) rfl rfl).trans ((dAdd_ll (by rw [List.length_map]; decide)).trans (by rw [List.map_append]; rfl))
    have y2 := dIn_idx (w := Str.ofString (kw p.kind)) (l := lkw ++ [Str.ofString "pong", Str.ofString "leave"]) (s := s)
    rw [lkind_idx hk] at y2
    have y3 := (bm1_ok (ty := isLst) (op := dIndex) y1 rfl w0).trans y2
    have y4 := (op_ok (op := dAdd nwF) (fa := eC (.int 1)) rfl y3).trans dAdd_int
    have y5 := (op_ok (op := dMul) (fa := eC (.int 16)) rfl y4).trans (mulL (by decide) (by decide))
    have e : 16 * (1 + ((p.kind - 1 : Nat) : Int)) = ((16 * p.kind : Nat) : Int) := by unfold kOk at hk; omega
    rw [e] at y5
    exact y5
  refine ws_step (e := [some p.d, some (.lst (lkw.map Dt.str)), some (.int ((16 * p.kind : Nat) : Nat)), none, none]) (st_asg c1) ?_
  refine ws_step (e := [some p.d, some (.lst (lkw.map Dt.str)), some (.int ((16 * p.kind + p.flags : Nat) : Nat)), none, none]) (s1 := s) ?_ ?_
  · have t : (tBl (eOp dEq (eOp dIx (eVar 0) (eC (.int 0))) (eC (.str (Str.ofString "say"))))) [some p.d, some (.lst (lkw.map Dt.str)), some (.int ((16 * p.kind : Nat) : Nat)), none, none] s = .ok (p.kind == 3) s := tBl_ok ((op_ok (fb := eC (.str (Str.ofString "say"))) w0 rfl).trans (dEq_w (pz_say h)))
    by_cases h3 : p.kind = 3
    · have : ∃ t ag i, p = .say t ag i := by
        cases p with
        | say tq ag i => exact ⟨tq, ag, i, rfl⟩
        | one k i =>
          have h4 : k = 4 ∨ k = 5 ∨ k = 6 ∨ k = 7 ∨ k = 11 := h.1
          have : k = 3 := h3
          omega
        | nul k =>
          have h4 : k = 12 ∨ k = 13 ∨ k = 14 := h
          have : k = 3 := h3
          omega
        | _ => cases h3
      obtain ⟨tt, ag, i, rfl⟩ := this
      exact st_ifT (t.trans rfl) (st_asg (lflags rfl rfl))
    · have hb : (p.kind == 3) = false := by simpa using h3
      rw [hb] at t
      have hz : p.flags = 0 := by
        cases p with
        | say t ag i => exact absurd rfl h3
        | _ => rfl
      rw [hz, Nat.add_zero]
      exact st_ifF t
  refine ws_step (e := [some p.d, some (.lst (lkw.map Dt.str)), some (.int ((16 * p.kind + p.flags : Nat) : Nat)), some (.lst (bys p.rest)), none]) (st_asg ((call1_ok rfl).trans hl)) ?_
  refine ws_step (e := [some p.d, some (.lst (lkw.map Dt.str)), some (.int ((16 * p.kind + p.flags : Nat) : Nat)), some (.lst (bys p.rest)), some (.int (p.rest.length : Nat))]) (s1 := s) (st_asg ((un_ok (fa := eVar 3) rfl).trans (by rw [dLen_lst, bys_len]))) ?_
  have x1 : (eLst nwF [eVar 2]) [some p.d, some (.lst (lkw.map Dt.str)), some (.int ((16 * p.kind + p.flags : Nat) : Nat)), some (.lst (bys p.rest)), some (.int (p.rest.length : Nat))] s = .ok (.lst (bys [16 * p.kind + p.flags])) s := rfl
  have x2 : (eIf (tBl (eOp dLt (eVar 4) (eC (.int 128)))) (eLst nwF [eVar 4]) (eLst nwF [eOp (dAdd nwF) (eOp dMod (eVar 4) (eC (.int 128))) (eC (.int 128)), eOp dFdv (eVar 4) (eC (.int 128))])) [some p.d, some (.lst (lkw.map Dt.str)), some (.int ((16 * p.kind + p.flags : Nat) : Nat)), some (.lst (bys p.rest)), some (.int (p.rest.length : Nat))] s = .ok (.lst (bys (lenB p.rest.length))) s := by
    rw [ex_if (lt128 rfl)]
    unfold lenB
    by_cases h5 : p.rest.length < 128
    · rw [decide_eq_true h5, if_pos rfl, if_pos h5]
      rfl
    · rw [decide_eq_false h5, if_neg (by decide), if_neg h5]
      have v : ∀ {s : Sto}, (eVar 4) [some p.d, some (.lst (lkw.map Dt.str)), some (.int ((16 * p.kind + p.flags : Nat) : Nat)), some (.lst (bys p.rest)), some (.int (p.rest.length : Nat))] s = .ok (.int (p.rest.length : Nat)) s := fun {s} => rfl
      have c : ∀ {s : Sto}, (eC (.int 128)) [some p.d, some (.lst (lkw.map Dt.str)), some (.int ((16 * p.kind + p.flags : Nat) : Nat)), some (.lst (bys p.rest)), some (.int (p.rest.length : Nat))] s = .ok (.int 128) s := fun {s} => rfl
      have y1 := (op_ok (op := dAdd nwF) ((op_ok v (c (s := s))).trans mod128) c).trans dAdd_int
      have y2 := (op_ok v (c (s := s))).trans fdv128
      have e1 : (p.rest.length : Int) % 128 + 128 = ((p.rest.length % 128 + 128 : Nat) : Int) := by omega
      have e2 : (p.rest.length : Int) / 128 = ((p.rest.length / 128 : Nat) : Int) := by omega
      rw [lst2_ok y1 y2, e1, e2]
      rfl
  have ll : (lenB p.rest.length).length ≤ 2 := by unfold lenB; split <;> simp
  have z1 := (op_ok (op := dAdd nwF) x1 x2).trans (dAdd_ll (by rw [bys_len, bys_len]; simp only [List.length_cons, List.length_nil]; omega))
  rw [← bys_app] at z1
  have z2 := (op_ok (op := dAdd nwF) (fb := eVar 3) z1 rfl).trans (dAdd_ll (by rw [bys_len, bys_len, List.length_append]; simp only [List.length_cons, List.length_nil]; omega))
  rw [← bys_app] at z2
  exact ws_rt (st_ret z2) ⟨rfl, rfl⟩
end Tx
namespace Tx
open PySem L2 Pd
/-! ### bytes are read -/
def BrR (i : Nat) (row rem : List Nat) : SP := Exi fun pre : List Nat => Sts [Pu (row = pre ++ rem), At i (.ins 0 [.lst (bys row), .int (pre.length : Nat)])]
theorem own_br {i : Nat} {row rem : List Nat} {R : List SP} {s : Sto} : Own (BrR i row rem :: R) s ↔ ∃ pre : List Nat, row = pre ++ rem ∧ Own (At i (.ins 0 [.lst (bys row), .int (pre.length : Nat)]) :: R) s := by
  unfold BrR
  simp only [own_ex, own_sts, List.cons_append, List.nil_append, own_pu]
/-- what is read, or that it can't be -/
def RdO {α : Type} (o : Out Dt) (p : Option (α × List Nat)) (f : α → Dt) (i : Nat) (row : List Nat) (R : List SP) : Prop := match p with
  | some (v, r) => ∃ s', o = .ok (f v) s' ∧ Own (BrR i row r :: R) s'
  | none => ∃ s' r, o = .exc 4 s' ∧ Own (BrR i row r :: R) s'
abbrev nD (n : Nat) : Dt := .int (n : Nat)
abbrev tD (l : List Nat) : Dt := .str (mkS l)
def pByte : List Nat → Option (Nat × List Nat)
  | [] => none
  | b :: r => some (b, r)
def pNum : List Nat → Option (Nat × List Nat)
  | a :: b :: r => some (256 * a + b, r)
  | _ => none
def vis (c : Nat) : Bool := decide (32 ≤ c) && decide (c < 127)
def sg (c : Nat) : Nat := if c = 37 then 32 else c
def pText : Nat → List Nat → Option (List Nat × List Nat)
  | 0, r => some ([], r)
  | n + 1, [] => none
  | n + 1, b :: r => if vis b = true then (pText n r).map fun x => (sg b :: x.1, x.2) else none
def pCnt (r : List Nat) : Option (List Nat × List Nat) := (pNum r).bind fun x => pText x.1 x.2
section
variable {i : Nat} {row rem : List Nat} {R : List SP} {s : Sto}
theorem rd_get (o : Own (BrR i row rem :: R) s) : ∃ x, s[i]? = some (.ins 0 [.lst (bys row), .int x]) := by
  obtain ⟨pre, _, o⟩ := own_br.mp o
  exact ⟨_, o.get⟩
theorem ev_end (o : Own (BrR i row rem :: R) s) : m_Bytes_is_end [.obj i] s = .ok (.bl (rem.isEmpty)) s := by
  obtain ⟨pre, e, o⟩ := own_br.mp o
  have g := o.get
  have h : ((pre.length : Int) == (row.length : Int)) = rem.isEmpty := by
    rw [e, List.length_append]
    cases rem with
    | nil => simp
    | cons a r => simp only [List.length_cons, List.isEmpty_cons, beq_eq_false_iff_ne]; omega
  unfold m_Bytes_is_end
  refine ws_chk ?_
  unfold b_Bytes_is_end
  have a1 : (eFld 0 1 (eVar 0)) [some (.obj i)] s = .ok (.int (pre.length : Nat)) s := by
    rw [ev_fld]
    unfold bnd
    show ofO s ((insD s 0 (.obj i)).bind fun p => p.2[1]?) = _
    rw [insD_obj g]
    rfl
  have a2 : (eFld 0 0 (eVar 0)) [some (.obj i)] s = .ok (.lst (bys row)) s := by
    rw [ev_fld]
    unfold bnd
    show ofO s ((insD s 0 (.obj i)).bind fun p => p.2[0]?) = _
    rw [insD_obj g]
    rfl
  refine ws_rt (d := .bl rem.isEmpty) (s1 := s) (st_ret ?_) ⟨rfl, rfl⟩
  have a3 := (un_ok (op := dLen) a2).trans dLen_lst
  rw [bys_len] at a3
  refine (op_ok a1 a3).trans ?_
  rw [dEq_int, h]
theorem meth0_ok {c : Nat} {f : Fn} {fo : Ex} {env : En} {s s1 : Sto} {j : Nat} {fs : List Dt} (h1 : fo env s = .ok (.obj j) s1) (hi : s1[j]? = some (.ins c fs)) : eMeth c f fo [] env s = f [.obj j] s1 := by
  rw [ev_meth]
  unfold bnd
  rw [h1]
  dsimp only
  rw [insD_obj hi]
  rfl
theorem meth1_ok {c : Nat} {f : Fn} {fo fa : Ex} {env : En} {s s1 s2 : Sto} {j : Nat} {fs : List Dt} {x : Dt} (h1 : fo env s = .ok (.obj j) s1) (hi : s1[j]? = some (.ins c fs)) (h2 : fa env s1 = .ok x s2) : eMeth c f fo [fa] env s = f [.obj j, x] s2 := by
  rw [ev_meth]
  unfold bnd
  rw [h1]
  dsimp only
  rw [insD_obj hi]
  dsimp only
  rw [evs_cons]
  unfold bnd
  rw [h2]
  rfl
theorem fld_ok {c k j : Nat} {fo : Ex} {env : En} {s s1 : Sto} {ds : List Dt} {d : Dt} (h1 : fo env s = .ok (.obj j) s1) (hi : s1[j]? = some (.ins c ds)) (hk : ds[k]? = some d) : eFld c k fo env s = .ok d s1 := by
  rw [ev_fld]
  unfold bnd
  rw [h1]
  show ofO s1 ((insD s1 c (.obj j)).bind fun p => p.2[k]?) = _
  rw [insD_obj hi]
  show ofO s1 (ds[k]?) = _
  rw [hk]
  rfl
theorem st_setF {c k j : Nat} {fo fv : Ex} {env : En} {s s1 s2 : Sto} {ds : List Dt} {y : Dt} (h1 : fv env s = .ok y s1) (h2 : fo env s1 = .ok (.obj j) s2) (hi : s2[j]? = some (.ins c ds)) (hk : k ≤ ds.length) : sSetF c k fo fv env s = .fl (.nx env) (s2.set j (.ins c (putI k y ds))) := by
  rw [ev_setF, sBnd_def, h1]
  dsimp only
  rw [sBnd_def, h2]
  dsimp only
  rw [setFD_obj hi hk]
theorem tru_ok {f : Ex} {env : En} {s s1 : Sto} {d : Dt} {b : Bool} (h : f env s = .ok d s1) (hb : truD s1 d = some b) : (tTru f) env s = .ok b s1 := by
  rw [ev_tru]
  unfold bnd
  rw [h]
  dsimp only
  rw [hb]
  rfl
theorem ev_byte (o : Own (BrR i row rem :: R) s) : RdO (m_Bytes_byte [.obj i] s) (pByte rem) nD i row R := by
  have he := ev_end o
  obtain ⟨x, hx⟩ := rd_get o
  have t : ∀ {b : Bool}, rem.isEmpty = b → (tTru (eMeth 0 m_Bytes_is_end (eVar 0) [])) [some (.obj i)] s = .ok b s := fun {b} hb => tru_ok ((meth0_ok (fo := eVar 0) rfl hx).trans he) (by rw [hb]; rfl)
  cases rem with
  | nil =>
    refine ⟨s, [], ?_, o⟩
    have : WO (m_Bytes_byte [.obj i] s) (fun _ _ => False) (fun c z => c = 4 ∧ z = s) := by
      unfold m_Bytes_byte
      refine wf_fn ?_
      unfold b_Bytes_byte
      refine ws_seq ?_
      exact ws_ifT (t rfl) (ws_ex rfl ⟨rfl, rfl⟩)
    cases hq : m_Bytes_byte [.obj i] s with
    | ok d z => rw [hq] at this; exact this.elim
    | exc c z => rw [hq] at this; obtain ⟨rfl, rfl⟩ := this; rfl
    | bad => rw [hq] at this; exact this.elim
  | cons b r =>
    obtain ⟨pre, e, o⟩ := own_br.mp o
    have g := o.get
    have o2 := o.set (.ins 0 [.lst (bys row), .int ((pre.length : Int) + 1)])
    refine ⟨s.set i (.ins 0 [.lst (bys row), .int ((pre.length : Int) + 1)]), ?_, own_br.mpr ⟨pre ++ [b], by rw [e]; simp, ?_⟩⟩
    rotate_left
    · have : (((pre ++ [b]).length : Nat) : Int) = (pre.length : Int) + 1 := by rw [List.length_append]; simp
      rw [this]
      exact o2
    · unfold m_Bytes_byte
      refine ws_chk ?_
      unfold b_Bytes_byte
      have a1 : (eFld 0 1 (eVar 0)) [some (.obj i)] s = .ok (.int (pre.length : Nat)) s := fld_ok (fo := eVar 0) rfl g rfl
      have a2 := (op_ok (op := dAdd nwF) (fb := eC (.int 1)) a1 rfl).trans dAdd_int
      refine ws_step (st_ifF (t rfl)) (ws_step (st_setF a2 (fo := eVar 0) rfl g (by simp)) ?_)
      have g2 := o2.get
      have b1 := fld_ok (k := 0) (fo := eVar 0) (env := [some (.obj i)]) rfl g2 rfl
      have b2' := fld_ok (k := 1) (fo := eVar 0) (env := [some (.obj i)]) rfl g2 rfl
      have b3 := (op_ok (op := dSub) (fb := eC (.int 1)) b2' rfl)
      have b4 := op_ok (op := dIx) b1 b3
      have b5 : dIx (.lst (bys row)) (.int ((pre.length : Int) + 1 - 1)) (s.set i (.ins 0 [.lst (bys row), .int ((pre.length : Int) + 1)])) = .ok (nD b) (s.set i (.ins 0 [.lst (bys row), .int ((pre.length : Int) + 1)])) := by
        rw [dIx_lst, show (pre.length : Int) + 1 - 1 = ((pre.length : Nat) : Int) by omega, atI_ofNat, e]
        simp
      exact ws_rt (st_ret (b4.trans b5)) ⟨rfl, rfl⟩
theorem rd_out {o : Out Dt} {α : Type} {p : Option (α × List Nat)} {f : α → Dt} (h : WO o (fun d z => ∃ v r, p = some (v, r) ∧ d = f v ∧ Own (BrR i row r :: R) z) (fun c z => c = 4 ∧ p = none ∧ ∃ r, Own (BrR i row r :: R) z)) : RdO o p f i row R := by
  cases o with
  | ok d z =>
    obtain ⟨v, r, rfl, rfl, o⟩ := h
    exact ⟨z, rfl, o⟩
  | exc c z =>
    obtain ⟨rfl, rfl, r, o⟩ := h
    exact ⟨z, r, rfl, o⟩
  | bad => exact h.elim
theorem rd_in {o : Out Dt} {α : Type} {p : Option (α × List Nat)} {f : α → Dt} {Q : Dt → Sto → Prop} {X : Nat → Sto → Prop} (h : RdO o p f i row R) (hq : ∀ v r z, p = some (v, r) → Own (BrR i row r :: R) z → Q (f v) z) (hx : ∀ r z, p = none → Own (BrR i row r :: R) z → X 4 z) : WO o Q X := by
  cases p with
  | none =>
    obtain ⟨z, r, rfl, o⟩ := h
    exact hx r z rfl o
  | some x =>
    obtain ⟨z, rfl, o⟩ := h
    exact hq _ _ z rfl o
/-- a reading method of no more is called -/
theorem we_rd {f : Fn} {α : Type} {p : Option (α × List Nat)} {g : α → Dt} {env : En} {fo : Ex} {Q : Dt → Sto → Prop} {X : Nat → Sto → Prop} (ho : fo env s = .ok (.obj i) s) (o : Own (BrR i row rem :: R) s) (h : RdO (f [.obj i] s) p g i row R) (hq : ∀ v r z, p = some (v, r) → Own (BrR i row r :: R) z → Q (g v) z) (hx : ∀ r z, p = none → Own (BrR i row r :: R) z → X 4 z) : Pd.WE (eMeth 0 f fo []) env s Q X := by
  obtain ⟨x, hg⟩ := rd_get o
  unfold Pd.WE
  rw [meth0_ok ho hg]
  exact rd_in h hq hx
theorem ev_num (o : Own (BrR i row rem :: R) s) : RdO (m_Bytes_number [.obj i] s) (pNum rem) nD i row R := by
  refine rd_out ?_
  unfold m_Bytes_number
  refine wf_fn ?_
  unfold b_Bytes_number
  refine ws_seq ?_
  refine ws_set (we_rd (fo := eVar 0) rfl o (ev_byte o) (fun a r z hp o1 => ?_) (fun r z hp o1 => ?_))
  · refine ws_ret (we_op (op := dAdd nwF) ?_)
    have m : (eOp dMul (eC (.int 256)) (eVar 1)) [some (.obj i), some (nD a)] z = .ok (.int (256 * (a : Int))) z := (op_ok (fa := eC (.int 256)) (fb := eVar 1) rfl rfl).trans (mulL (by decide) (by decide))
    refine we_ok m (we_rd (fo := eVar 0) rfl o1 (ev_byte o1) (fun b r2 z2 hp2 o2 => ?_) (fun r2 z2 hp2 o2 => ?_))
    · cases rem with
      | nil => cases hp
      | cons x rm =>
        cases hp
        cases r with
        | nil => cases hp2
        | cons y rm =>
          cases hp2
          exact wo_of dAdd_int ⟨256 * a + b, r2, rfl, by show Dt.int (256 * (a : Int) + (b : Int)) = .int ((256 * a + b : Nat) : Int); congr 1, o2⟩
    · cases rem with
      | nil => cases hp
      | cons x rm =>
        cases hp
        cases r with
        | nil => exact ⟨rfl, rfl, _, o2⟩
        | cons y rm => cases hp2
  · cases rem with
    | nil => exact ⟨rfl, rfl, _, o1⟩
    | cons x rm => cases hp
theorem signs_at {b : Nat} (h : vis b = true) {s : Sto} : dIx (.str (Str.ofString " !\"#$ &'()*+,-./0123456789:;<=>?@ABCDEFGHIJKLMNOPQRSTUVWXYZ[\\]^_`abcdefghijklmnopqrstuvwxyz{|}~")) (.int ((b : Int) - 32)) s = .ok (tD [sg b]) s := by
  unfold vis at h
  simp only [Bool.and_eq_true, decide_eq_true_eq] at h
  have e : ∀ k : Fin 95, (Str.ofString " !\"#$ &'()*+,-./0123456789:;<=>?@ABCDEFGHIJKLMNOPQRSTUVWXYZ[\\]^_`abcdefghijklmnopqrstuvwxyz{|}~").cps.toList[k.val]? = some (sg (k.val + 32)) := by decide +kernel
  rw [dIx_str, show (b : Int) - 32 = ((b - 32 : Nat) : Int) by omega, atI_ofNat]
  have := e ⟨b - 32, by omega⟩
  simp only at this
  rw [this, show b - 32 + 32 = b by omega]
  rfl
theorem vis_t {b : Nat} {env : En} {s : Sto} {j : Nat} (hv : env[j]? = some (some (nD b))) : (tNot (tBl (eChain dLe dLt (eC (.int 32)) (eVar j) (eC (.int 127))))) env s = .ok (!vis b) s := by
  unfold vis
  by_cases h1 : 32 ≤ b
  · have g1 : (32 : Int) ≤ b := by omega
    by_cases h2 : b < 127
    · have g2 : (b : Int) < 127 := by omega
      simp only [runR, Nat.reduceAdd, Nat.reduceSub, Int.reduceBEq, Int.reduceEq, Int.reduceLT, Int.reduceLE, Int.reduceNeg, Int.reduceAdd, Int.reduceSub, Int.reduceMul, Int.reduceToNat, Nat.reduceLT, Nat.reduceLeDiff, reduceIte, Int.reduceNe, Int.reduceBNe, String.reduceBEq, hv, dLe, dLt, g1, g2, h1, h2]
    · have g2 : ¬ (b : Int) < 127 := by omega
      simp only [runR, Nat.reduceAdd, Nat.reduceSub, Int.reduceBEq, Int.reduceEq, Int.reduceLT, Int.reduceLE, Int.reduceNeg, Int.reduceAdd, Int.reduceSub, Int.reduceMul, Int.reduceToNat, Nat.reduceLT, Nat.reduceLeDiff, reduceIte, Int.reduceNe, Int.reduceBNe, String.reduceBEq, hv, dLe, dLt, g1, g2, h1, h2]
  · have g1 : ¬ (32 : Int) ≤ b := by omega
    simp only [runR, Nat.reduceAdd, Nat.reduceSub, Int.reduceBEq, Int.reduceEq, Int.reduceLT, Int.reduceLE, Int.reduceNeg, Int.reduceAdd, Int.reduceSub, Int.reduceMul, Int.reduceToNat, Nat.reduceLT, Nat.reduceLeDiff, reduceIte, Int.reduceNe, Int.reduceBNe, String.reduceBEq, hv, dLe, g1, h1]
theorem pText_snoc : ∀ (k : Nat) (rem found r : List Nat), pText k rem = some (found, r) → pText (k + 1) rem = match r with
    | [] => none
    | b :: r' => if vis b = true then some (found ++ [sg b], r') else none
  | 0, rem, found, r, h => by
    cases h
    cases rem with
    | nil => rfl
    | cons b r' =>
      show (if vis b = true then (pText 0 r').map _ else none) = _
      rfl
  | k + 1, [], found, r, h => by cases h
  | k + 1, b :: rem, found, r, h => by
    rw [pText] at h ⊢
    by_cases hb : vis b = true
    · rw [if_pos hb] at h ⊢
      obtain ⟨⟨f2, r2⟩, h1, h2⟩ := Option.map_eq_some_iff.mp h
      cases h2
      rw [pText_snoc k rem f2 r2 h1]
      cases r2 with
      | nil => rfl
      | cons c r' =>
        dsimp only
        by_cases hc : vis c = true
        · rw [if_pos hc, if_pos hc]
          rfl
        · rw [if_neg hc, if_neg hc]
          rfl
    · rw [if_neg hb] at h
      cases h
theorem pText_more {k : Nat} : ∀ {n : Nat} {rem : List Nat}, k ≤ n → pText k rem = none → pText n rem = none := by
  induction k with
  | zero => intro n rem _ h; cases rem <;> cases h
  | succ k ih =>
    intro n rem hk h
    obtain ⟨m, rfl⟩ : ∃ m, n = m + 1 := ⟨n - 1, by omega⟩
    cases rem with
    | nil => rfl
    | cons b rem =>
      rw [pText] at h ⊢
      by_cases hb : vis b = true
      · rw [if_pos hb] at h ⊢
        rw [Option.map_eq_none_iff] at h ⊢
        exact ih (by omega) h
      · rw [if_neg hb]
theorem pText_len : ∀ {n : Nat} {rem f r : List Nat}, pText n rem = some (f, r) → f.length = n ∧ rem.length = n + r.length
  | 0, rem, f, r, h => by cases h; exact ⟨rfl, by omega⟩
  | n + 1, [], f, r, h => by cases h
  | n + 1, b :: rem, f, r, h => by
    rw [pText] at h
    split at h
    · obtain ⟨⟨f2, r2⟩, h1, h2⟩ := Option.map_eq_some_iff.mp h
      cases h2
      obtain ⟨a, b⟩ := pText_len h1
      exact ⟨by simp [a], by simp only [List.length_cons]; omega⟩
    · cases h
theorem ev_txt {n : Nat} (hn : n ≤ 500000) (o : Own (BrR i row rem :: R) s) : RdO (m_Bytes_text [.obj i, .int (n : Nat)] s) (pText n rem) tD i row R := by
  refine rd_out ?_
  unfold m_Bytes_text
  refine wf_fn ?_
  unfold b_Bytes_text
  refine ws_step (f := u_Bytes_text_1) (e := [some (.obj i), some (.int (n : Nat)), some (.str (mkS [])), none, none]) (s1 := s) ?_ ?_
  · exact st_asg rfl
  refine ws_seq ?_
  unfold u_Bytes_text_2
  refine ws_range (n := n) (s0 := s) [2, 3, 4] (fun k xs z => ∃ f r x y, xs = [some (tD f), x, y] ∧ pText k rem = some (f, r) ∧ Own (BrR i row r :: R) z) rfl (by omega) rfl ⟨[], rem, _, _, rfl, by cases rem <;> rfl, o⟩ ?_ ?_
  · rintro k xs z hk hx ⟨f, r, x, y, rfl, hp, o⟩
    refine ⟨_, rfl, ?_⟩
    have hs := pText_snoc k rem f r hp
    unfold l_Bytes_text_1 w_Bytes_text_1
    refine ws_seq (ws_set (we_rd (fo := eVar 0) rfl o (ev_byte o) (fun b r2 z2 hp2 o2 => ?_) (fun r2 z2 hp2 o2 => ?_)))
    · cases r with
      | nil => cases hp2
      | cons b' r' =>
        cases hp2
        dsimp only at hs
        by_cases hb : vis b = true
        · rw [if_pos hb] at hs
          have e3 : (eOp (dAdd nwF) (eVar 2) (eOp dIx (eC (.str (Str.ofString " !\"#$ &'()*+,-./0123456789:;<=>?@ABCDEFGHIJKLMNOPQRSTUVWXYZ[\\]^_`abcdefghijklmnopqrstuvwxyz{|}~"))) (eOp dSub (eVar 4) (eC (.int 32))))) [some (.obj i), some (.int (n : Nat)), some (tD f), some (.int (k : Nat)), some (nD b)] z2 = .ok (tD (f ++ [sg b])) z2 := by
            have y1 : (eOp dSub (eVar 4) (eC (.int 32))) [some (.obj i), some (.int (n : Nat)), some (tD f), some (.int (k : Nat)), some (nD b)] z2 = .ok (.int ((b : Int) - 32)) z2 := rfl
            have y2 := (op_ok (op := dIx) (fa := eC (.str (Str.ofString " !\"#$ &'()*+,-./0123456789:;<=>?@ABCDEFGHIJKLMNOPQRSTUVWXYZ[\\]^_`abcdefghijklmnopqrstuvwxyz{|}~"))) rfl y1).trans (signs_at hb)
            refine (op_ok (fa := eVar 2) rfl y2).trans ?_
            rw [str_obj]
            have := (pText_len hp).1
            show (if f.length + [sg b].length ≤ 1000000 then Out.ok (Dt.str (mkS (f ++ [sg b]))) z2 else Out.bad) = _
            rw [if_pos (by simp only [List.length_cons, List.length_nil]; omega)]
          refine ws_step (f := w_Bytes_text_2) (st_ifF (s1 := z2) ((vis_t rfl).trans (by rw [hb]; rfl))) ?_
          exact ws_nx (f := w_Bytes_text_3) (st_asg e3) ⟨[_, _, _], rfl, rfl, _, _, _, _, rfl, hs, o2⟩
        · rw [if_neg hb] at hs
          have hb2 : (!vis b) = true := by simpa using hb
          refine ws_seq ?_
          refine ws_ifT (s1 := z2) ((vis_t rfl).trans (by rw [hb2])) (ws_ex rfl ⟨rfl, pText_more (by omega) hs, _, o2⟩)
    · cases r with
      | nil => exact ⟨rfl, pText_more (by omega) hs, _, o2⟩
      | cons b' r' => cases hp2
  · rintro xs z hx ⟨f, r, x, y, rfl, hp, o⟩
    dsimp only
    refine ws_rt (f := u_Bytes_text_3) (d := tD f) (s1 := z) ?_ ?_
    · exact st_ret rfl
    · exact ⟨f, r, hp, rfl, o⟩
theorem pNum_lt {rem r : List Nat} {n : Nat} (hr : ∀ b ∈ rem, b < 256) (h : pNum rem = some (n, r)) : n < 65536 ∧ ∀ b ∈ r, b < 256 := by
  match rem, h with
  | a :: b :: r', h =>
    cases h
    have h1 := hr a (by simp)
    have h2 := hr b (by simp)
    exact ⟨by omega, fun c hc => hr c (by simp [hc])⟩
theorem we_rd1 {f : Fn} {α : Type} {p : Option (α × List Nat)} {g : α → Dt} {env : En} {fo fa : Ex} {x : Dt} {Q : Dt → Sto → Prop} {X : Nat → Sto → Prop} (ho : fo env s = .ok (.obj i) s) (ha : fa env s = .ok x s) (o : Own (BrR i row rem :: R) s) (h : RdO (f [.obj i, x] s) p g i row R) (hq : ∀ v r z, p = some (v, r) → Own (BrR i row r :: R) z → Q (g v) z) (hx : ∀ r z, p = none → Own (BrR i row r :: R) z → X 4 z) : Pd.WE (eMeth 0 f fo [fa]) env s Q X := by
  obtain ⟨y, hg⟩ := rd_get o
  unfold Pd.WE
  rw [meth1_ok ho hg ha]
  exact rd_in h hq hx
theorem ev_cnt (hr : ∀ b ∈ rem, b < 256) (o : Own (BrR i row rem :: R) s) : RdO (m_Bytes_counted [.obj i] s) (pCnt rem) tD i row R := by
  refine rd_out ?_
  unfold m_Bytes_counted
  refine wf_fn ?_
  unfold b_Bytes_counted
  refine ws_ret ?_
  have hn := ev_num o
  unfold Pd.WE
  obtain ⟨x, hg⟩ := rd_get o
  rw [ev_meth]
  refine wo_bnd ?_
  show WO (match insD s 0 (.obj i) with | some _ => _ | none => _) _ _
  rw [insD_obj hg]
  refine wo_bnd ?_
  refine wa_cons (we_rd (fo := eVar 0) rfl o hn (fun n r z hp o1 => ?_) (fun r z hp o1 => ?_))
  · refine wa_nil ?_
    obtain ⟨h1, _⟩ := pNum_lt hr hp
    refine rd_in (ev_txt (n := n) (by omega) o1) (fun t r2 z2 hp2 o2 => ?_) (fun r2 z2 hp2 o2 => ?_)
    · exact ⟨t, r2, by rw [pCnt, hp]; exact hp2, rfl, o2⟩
    · exact ⟨rfl, by rw [pCnt, hp]; exact hp2, _, o2⟩
  · exact ⟨rfl, by rw [pCnt, hp]; rfl, _, o1⟩
end
end Tx
namespace Tx
open PySem L2 Pd
/-! packets are read -/
def pCon (r : List Nat) : Option (Pz × List Nat) :=
  (pCnt r).bind fun x => (pByte x.2).bind fun y =>
    if y.1 / 4 % 2 = 0 then some (.con x.1 (y.1 / 2 % 2 == 1) none, y.2)
    else (pCnt y.2).bind fun u => (pCnt u.2).bind fun v => some (.con x.1 (y.1 / 2 % 2 == 1) (some ⟨u.1, v.1, y.1 / 8 % 4, y.1 / 32 % 2 == 1⟩), v.2)
def pSay (fl : Nat) (r : List Nat) : Option (Pz × List Nat) :=
  (pCnt r).bind fun x => (if 0 < fl / 2 % 4 then pNum x.2 else some (0, x.2)).bind fun y =>
    (pText y.2.length y.2).bind fun u => some (.say ⟨x.1, u.1, fl / 2 % 4, fl % 2 == 1⟩ (fl / 8 == 1) y.1, u.2)
def pMany {α : Type} (one : List Nat → Option (α × List Nat)) : Nat → List Nat → Option (List α)
  | _, [] => some []
  | 0, _ :: _ => none
  | n + 1, b :: r => (one (b :: r)).bind fun x => (pMany one n x.2).map fun l => x.1 :: l
def pPair (r : List Nat) : Option ((List Nat × Nat) × List Nat) := (pCnt r).bind fun x => (pByte x.2).map fun y => ((x.1, y.1), y.2)
def pSome (k : Nat) (r : List Nat) : Option (Pz × List Nat) := (pNum r).bind fun x =>
  if k = 9 then (pMany pByte x.2.length x.2).map fun l => (.hrd x.1 l, [])
  else if k = 10 then (pMany pCnt x.2.length x.2).map fun l => (.drp x.1 l, [])
  else (pMany pPair x.2.length x.2).map fun l => (.hea x.1 l, [])
def pRest (k fl : Nat) (r : List Nat) : Option (Pz × List Nat) :=
  if k = 1 then pCon r
  else if k = 2 then (pByte r).map fun x => (.gre (x.1 == 1), x.2)
  else if k = 3 then pSay fl r
  else if k = 8 ∨ k = 9 ∨ k = 10 then pSome k r
  else if 12 ≤ k then some (.nul k, r)
  else (pNum r).map fun x => (.one k x.1, x.2)
theorem natB {a b : Nat} : ((a : Int) == (b : Int)) = (a == b) := by rw [Bool.eq_iff_iff]; simp only [beq_iff_eq]; omega
theorem fdm {e : Ex} {env : En} {s : Sto} {n : Nat} (k m : Nat) (hk : 0 < k) (hk2 : k < 1000000) (hm : 0 < m) (h : e env s = .ok (.int (n : Nat)) s) : (eOp dMod (eOp dFdv e (eC (.int (k : Nat)))) (eC (.int (m : Nat)))) env s = .ok (.int ((n / k % m : Nat) : Nat)) s := by
  have a := (op_ok (op := dFdv) (fb := eC (.int (k : Nat))) h rfl).trans (fdvL (by omega) (by omega))
  have b := (op_ok (op := dMod) (fb := eC (.int (m : Nat))) a rfl).trans (modL (by omega))
  rw [b]
  rfl
theorem eq_n {e : Ex} {env : En} {s : Sto} {n : Nat} (m : Nat) (h : e env s = .ok (.int (n : Nat)) s) : (eOp dEq e (eC (.int (m : Nat)))) env s = .ok (.bl (n == m)) s := by
  refine (op_ok (fb := eC (.int (m : Nat))) h rfl).trans ?_
  rw [dEq_int, natB]
section
variable {i : Nat} {row rem : List Nat} {R : List SP} {s : Sto}
theorem pText_sub {n : Nat} : ∀ {rem f r : List Nat}, pText n rem = some (f, r) → ∀ b ∈ r, b ∈ rem := by
  induction n with
  | zero => intro rem f r h; cases h; exact fun b hb => hb
  | succ n ih =>
    intro rem f r h
    cases rem with
    | nil => cases h
    | cons c rem =>
      rw [pText] at h
      split at h
      · obtain ⟨⟨f2, r2⟩, h1, h2⟩ := Option.map_eq_some_iff.mp h
        cases h2
        exact fun b hb => List.mem_cons_of_mem _ (ih h1 b hb)
      · cases h
theorem pCnt_lt {r : List Nat} {l : List Nat} (hr : ∀ b ∈ rem, b < 256) (h : pCnt rem = some (l, r)) : (∀ b ∈ r, b < 256) ∧ l.length < 65536 ∧ r.length + 2 ≤ rem.length := by
  unfold pCnt at h
  obtain ⟨⟨n, r1⟩, h1, h2⟩ := Option.bind_eq_some_iff.mp h
  obtain ⟨a, b⟩ := pNum_lt hr h1
  obtain ⟨c, d⟩ := pText_len h2
  refine ⟨fun x hx => b x (pText_sub h2 x hx), by simp only at c; omega, ?_⟩
  match rem, h1 with
  | p :: q :: r', h1 =>
    cases h1
    simp only [List.length_cons]
    simp only at d
    omega
theorem pByte_lt {r : List Nat} {x : Nat} (hr : ∀ b ∈ rem, b < 256) (h : pByte rem = some (x, r)) : (∀ b ∈ r, b < 256) ∧ x < 256 := by
  match rem, h with
  | p :: r', h =>
    cases h
    exact ⟨fun b hb => hr b (by simp [hb]), hr _ (by simp)⟩
theorem ev_con (hr : ∀ b ∈ rem, b < 256) (o : Own (BrR i row rem :: R) s) : RdO (m_read_connect [.obj i] s) (pCon rem) Pz.d i row R := by
  refine rd_out ?_
  unfold m_read_connect
  refine wf_fn ?_
  unfold b_read_connect
  refine ws_seq (f := u_read_connect_1) (ws_set (we_rd (fo := eVar 0) rfl o (ev_cnt hr o) (fun h r1 z1 p1 o1 => ?_) (fun r1 z1 p1 o1 => ⟨rfl, by rw [pCon, p1]; rfl, _, o1⟩)))
  obtain ⟨k1, _⟩ := pCnt_lt hr p1
  refine ws_seq (f := u_read_connect_2) (ws_set (we_rd (fo := eVar 0) rfl o1 (ev_byte o1) (fun fl r2 z2 p2 o2 => ?_) (fun r2 z2 p2 o2 => ⟨rfl, by rw [pCon, p1]; show (pByte r1).bind _ = _; rw [p2]; rfl, _, o2⟩)))
  obtain ⟨k2, _⟩ := pByte_lt k1 p2
  have hp : pCon rem = if fl / 4 % 2 = 0 then some (.con h (fl / 2 % 2 == 1) none, r2)
    else (pCnt r2).bind fun u => (pCnt u.2).bind fun v => some (.con h (fl / 2 % 2 == 1) (some ⟨u.1, v.1, fl / 8 % 4, fl / 32 % 2 == 1⟩), v.2) := by
    rw [pCon, p1]
    show (pByte r1).bind _ = _
    rw [p2]
    rfl
  refine ws_step (f := u_read_connect_3) (e := [some (.obj i), some (tD h), some (nD fl), some (.bl (fl / 2 % 2 == 1)), none]) (s1 := z2) ?_ ?_
  · exact st_asg (eq_n 1 (fdm 2 2 (by decide) (by decide) (by decide) (e := eVar 2) rfl))
  have t4 : (tBl (eOp dEq (eOp dMod (eOp dFdv (eVar 2) (eC (.int 4))) (eC (.int 2))) (eC (.int 0)))) [some (.obj i), some (tD h), some (nD fl), some (.bl (fl / 2 % 2 == 1)), none] z2 = .ok (fl / 4 % 2 == 0) z2 :=
    tBl_ok (eq_n 0 (fdm 4 2 (by decide) (by decide) (by decide) (e := eVar 2) rfl))
  by_cases h4 : fl / 4 % 2 = 0
  · rw [if_pos h4] at hp
    refine ws_out (f := u_read_connect_4) (st_ifR (t4.trans (by rw [h4]; rfl)) (d := (Pz.con h (fl / 2 % 2 == 1) none).d) (s2 := z2) rfl) ⟨_, _, hp, rfl, o2⟩
  · rw [if_neg h4] at hp
    have h4b : (fl / 4 % 2 == 0) = false := by simpa using h4
    refine ws_step (f := u_read_connect_4) (st_ifF (t4.trans (by rw [h4b]))) ?_
    refine ws_seq (f := u_read_connect_5) (ws_set (we_rd (fo := eVar 0) rfl o2 (ev_cnt k2 o2) (fun n r3 z3 p3 o3 => ?_) (fun r3 z3 p3 o3 => ⟨rfl, by rw [hp, p3]; rfl, _, o3⟩)))
    obtain ⟨k3, _⟩ := pCnt_lt k2 p3
    unfold u_read_connect_6
    refine ws_ret ?_
    refine we_tup (wa_cons (we_ok rfl (wa_cons (we_ok rfl (wa_cons (we_ok rfl (wa_cons (we_tup (wa_cons (we_ok rfl (wa_cons (we_rd (fo := eVar 0) rfl o3 (ev_cnt k3 o3) (fun b r4 z4 p4 o4 => ?_) (fun r4 z4 p4 o4 => ⟨rfl, by rw [hp, p3]; show (pCnt r3).bind _ = _; rw [p4]; rfl, _, o4⟩)))))))))))))
    refine wa_cons (we_ok (fdm 8 4 (by decide) (by decide) (by decide) (e := eVar 2) rfl) (wa_cons (we_ok (eq_n 1 (fdm 32 2 (by decide) (by decide) (by decide) (e := eVar 2) rfl)) (wa_nil (wa_nil ?_)))))
    exact ⟨_, _, by rw [hp, p3]; show (pCnt r3).bind _ = _; rw [p4]; rfl, rfl, o4⟩
end
section
variable {i : Nat} {row rem : List Nat} {R : List SP} {s : Sto}
theorem rd_left (o : Own (BrR i row rem :: R) s) {env : En} {fo : Ex} (ho : fo env s = .ok (.obj i) s) : (eOp dSub (eUn dLen (eFld 0 0 fo)) (eFld 0 1 fo)) env s = .ok (.int (rem.length : Nat)) s := by
  obtain ⟨pre, e, o⟩ := own_br.mp o
  have g := o.get
  have a1 := (un_ok (op := dLen) (fld_ok (k := 0) ho g rfl)).trans dLen_lst
  have a2 := fld_ok (k := 1) ho g rfl
  refine (op_ok a1 a2).trans ?_
  show Out.ok (Dt.int (((bys row).length : Int) - (pre.length : Int))) s = _
  rw [bys_len, e, List.length_append]
  have : (((pre.length + rem.length : Nat) : Int) - (pre.length : Int)) = ((rem.length : Nat) : Int) := by omega
  rw [this]
theorem num_len {r r' : List Nat} {y : Nat} (h : pNum r = some (y, r')) : r'.length + 2 = r.length := by
  match r, h with
  | a :: b :: q, h => cases h; simp
theorem ev_rsay {fl : Nat} (hl : rem.length ≤ 100000) (hr : ∀ b ∈ rem, b < 256) (o : Own (BrR i row rem :: R) s) : RdO (m_read_say [.obj i, nD fl] s) (pSay fl rem) Pz.d i row R := by
  refine rd_out ?_
  unfold m_read_say
  refine wf_fn ?_
  unfold b_read_say
  refine ws_seq (f := u_read_say_1) (ws_set (we_rd (fo := eVar 0) rfl o (ev_cnt hr o) (fun n r1 z1 p1 o1 => ?_) (fun r1 z1 p1 o1 => ⟨rfl, by rw [pSay, p1]; rfl, _, o1⟩)))
  obtain ⟨k1, _, kl⟩ := pCnt_lt hr p1
  have hp : pSay fl rem = (if 0 < fl / 2 % 4 then pNum r1 else some (0, r1)).bind fun y => (pText y.2.length y.2).bind fun u => some (.say ⟨n, u.1, fl / 2 % 4, fl % 2 == 1⟩ (fl / 8 == 1) y.1, u.2) := by
    rw [pSay, p1]
    rfl
  refine ws_step (f := u_read_say_2) (e := [some (.obj i), some (nD fl), some (tD n), some (nD (fl / 2 % 4)), none, none]) (s1 := z1) ?_ ?_
  · exact st_asg (fdm 2 4 (by decide) (by decide) (by decide) (e := eVar 1) rfl)
  have t3 : (tBl (eOp dGt (eVar 3) (eC (.int 0)))) [some (.obj i), some (nD fl), some (tD n), some (nD (fl / 2 % 4)), none, none] z1 = .ok (decide (0 < fl / 2 % 4)) z1 := gt0 rfl
  have fin : ∀ (y : Nat) (r2 : List Nat) (z2 : Sto), (if 0 < fl / 2 % 4 then pNum r1 else some (0, r1)) = some (y, r2) → r2.length ≤ 100000 → Own (BrR i row r2 :: R) z2 →
      WS (sSeq u_read_say_4 u_read_say_5) ⟨fun _ s => ∃ v r, pSay fl rem = some (v, r) ∧ Dt.non = Pz.d v ∧ Own (BrR i row r :: R) s, fun d z => ∃ v r, pSay fl rem = some (v, r) ∧ d = Pz.d v ∧ Own (BrR i row r :: R) z, fun _ _ => False, fun _ _ => False, fun c _ z => c = 4 ∧ pSay fl rem = none ∧ ∃ r, Own (BrR i row r :: R) z⟩ [some (.obj i), some (nD fl), some (tD n), some (nD (fl / 2 % 4)), some (nD y), none] z2 := by
    intro y r2 z2 hy hl2 o2
    rw [hy] at hp
    unfold u_read_say_4
    refine ws_seq (ws_set (we_rd1 (fo := eVar 0) rfl (rd_left o2 rfl) o2 (ev_txt (n := r2.length) (by omega) o2) (fun b r3 z3 p3 o3 => ?_) (fun r3 z3 p3 o3 => ⟨rfl, by rw [hp]; show (pText r2.length r2).bind _ = _; rw [p3]; rfl, _, o3⟩)))
    unfold u_read_say_5
    have h5 : (eOp dEq (eOp dMod (eVar 1) (eC (.int 2))) (eC (.int 1))) [some (.obj i), some (nD fl), some (tD n), some (nD (fl / 2 % 4)), some (nD y), some (tD b)] z3 = .ok (.bl (fl % 2 == 1)) z3 :=
      eq_n 1 (n := fl % 2) ((op_ok (op := dMod) (fa := eVar 1) (fb := eC (.int 2)) rfl rfl).trans ((modL (by decide)).trans rfl))
    have h6 : (eOp dEq (eOp dFdv (eVar 1) (eC (.int 8))) (eC (.int 1))) [some (.obj i), some (nD fl), some (tD n), some (nD (fl / 2 % 4)), some (nD y), some (tD b)] z3 = .ok (.bl (fl / 8 == 1)) z3 :=
      eq_n 1 (n := fl / 8) ((op_ok (op := dFdv) (fa := eVar 1) (fb := eC (.int 8)) rfl rfl).trans ((fdvL (by decide) (by decide)).trans rfl))
    dsimp only
    refine ws_ret (we_tup ?_)
    refine wa_cons (we_ok rfl ?_)
    refine wa_cons (we_ok rfl ?_)
    refine wa_cons (we_ok rfl ?_)
    refine wa_cons (we_ok rfl ?_)
    refine wa_cons (we_ok h5 ?_)
    refine wa_cons (we_ok h6 ?_)
    refine wa_cons (we_ok rfl ?_)
    refine wa_nil ?_
    exact ⟨_, _, by rw [hp]; show (pText r2.length r2).bind _ = _; rw [p3]; rfl, rfl, o3⟩
  refine ws_seq (f := u_read_say_3) ?_
  unfold u_read_say_3
  refine ws_set (we_if (wt_ok t3 ?_))
  by_cases h4 : 0 < fl / 2 % 4
  · rw [decide_eq_true h4, if_pos rfl]
    exact we_rd (fo := eVar 0) rfl o1 (ev_num o1) (fun y r2 z2 p2 o2 => fin y r2 z2 (by rw [if_pos h4]; exact p2) (by have := num_len p2; omega) o2) (fun r2 z2 p2 o2 => ⟨rfl, by rw [hp, if_pos h4, p2]; rfl, _, o2⟩)
  · rw [decide_eq_false h4, if_neg (by decide)]
    exact we_ok rfl (fin 0 r1 z1 (by rw [if_neg h4]) (by omega) o1)
theorem pMany_mono {α : Type} {one : List Nat → Option (α × List Nat)} {P : List Nat → Prop} (hP : ∀ r a r', P r → one r = some (a, r') → P r' ∧ r'.length < r.length) : ∀ (m : Nat) {n k : Nat} {r : List Nat}, r.length ≤ m → P r → r.length ≤ n → r.length ≤ k → pMany one n r = pMany one k r := by
  intro m
  induction m with
  | zero =>
    intro n k r hm _ _ _
    have : r = [] := List.length_eq_zero_iff.mp (by omega)
    subst this
    cases n <;> cases k <;> rfl
  | succ m ih =>
    intro n k r hm hp hn hk
    cases r with
    | nil => cases n <;> cases k <;> rfl
    | cons b r =>
      simp only [List.length_cons] at hm hn hk
      obtain ⟨n', rfl⟩ : ∃ n', n = n' + 1 := ⟨n - 1, by omega⟩
      obtain ⟨k', rfl⟩ : ∃ k', k = k' + 1 := ⟨k - 1, by omega⟩
      rw [pMany, pMany]
      cases h : one (b :: r) with
      | none => rfl
      | some x =>
        obtain ⟨a, r'⟩ := x
        obtain ⟨hp', hlt⟩ := hP _ _ _ hp h
        simp only [List.length_cons] at hlt
        show (pMany one n' r').map _ = (pMany one k' r').map _
        rw [ih (n := n') (k := k') (r := r') (by omega) hp' (by omega) (by omega)]
theorem pMany_fuel {α : Type} {one : List Nat → Option (α × List Nat)} {P : List Nat → Prop} (hP : ∀ r a r', P r → one r = some (a, r') → P r' ∧ r'.length < r.length) {n : Nat} {r : List Nat} (hp : P r) (hl : r.length ≤ n) : pMany one n r = pMany one r.length r := pMany_mono hP r.length (Nat.le_refl _) hp hl (Nat.le_refl _)
theorem many_run {α : Type} {one : List Nat → Option (α × List Nat)} {f : α → Dt} {w : Str} {x2 : Option Dt} {j : Nat} {P : List Nat → Prop} {K : Ks}
    (hP : ∀ r a r', P r → one r = some (a, r') → P r' ∧ r'.length < r.length)
    (turn : ∀ (r : List Nat) (acc : List α) (x : Option Dt) (z : Sto), P r → r ≠ [] → acc.length ≤ 500000 → Own (BrR i row r :: At j (.lst (acc.map f)) :: R) z →
      WS l_read_some_1 ⟨fun e z' => ∃ a r' x', one r = some (a, r') ∧ e = [some (.obj i), some (.str w), x2, some (.obj j), x'] ∧ Own (BrR i row r' :: At j (.lst ((acc ++ [a]).map f)) :: R) z', K.rt, fun _ _ => False, fun _ _ => False, fun c _ z' => c = 4 ∧ one r = none ∧ ∃ r', Own (BrR i row r' :: R) z'⟩ [some (.obj i), some (.str w), x2, some (.obj j), x] z)
    (hl : rem.length ≤ 90000) (h0 : P rem) {z : Sto} (o : Own (BrR i row rem :: At j (.lst []) :: R) z)
    (hK : ∀ l x z', pMany one rem.length rem = some l → Own (BrR i row [] :: At j (.lst (l.map f)) :: R) z' → K.nx [some (.obj i), some (.str w), x2, some (.obj j), x] z')
    (hX : ∀ e z', pMany one rem.length rem = none → (∃ r', Own (BrR i row r' :: R) z') → K.ex 4 e z') :
    WS (whGo (tNot (tTru (eMeth 0 m_Bytes_is_end (eVar 0) []))) l_read_some_1 100000) K [some (.obj i), some (.str w), x2, some (.obj j), none] z := by
  refine ws_while [4] (fun n xs z => ∃ r acc x, n = r.length ∧ xs = [x] ∧ P r ∧ r.length ≤ rem.length ∧ acc.length + r.length ≤ rem.length ∧ pMany one rem.length rem = (pMany one r.length r).map (acc ++ ·) ∧ Own (BrR i row r :: At j (.lst (acc.map f)) :: R) z) rem.length (by omega) rfl ⟨rem, [], none, rfl, rfl, h0, by omega, by simp, by cases pMany one rem.length rem <;> rfl, o⟩ ?_
  rintro n xs z hx ⟨r, acc, x, rfl, rfl, hp, hle, hacc, hm, o⟩
  obtain ⟨y, hg⟩ := rd_get o
  have t : (tTru (eMeth 0 m_Bytes_is_end (eVar 0) [])) [some (.obj i), some (.str w), x2, some (.obj j), x] z = .ok r.isEmpty z := tru_ok ((meth0_ok (fo := eVar 0) rfl hg).trans (ev_end o)) rfl
  refine wt_not (wt_ok t ?_)
  cases r with
  | nil =>
    show if (false = true) then _ else _
    rw [if_neg (by decide)]
    refine hK acc x z ?_ o
    rw [hm]
    simp [pMany]
  | cons b r =>
    show if (true = true) then _ else _
    rw [if_pos rfl]
    refine ws_mono (turn (b :: r) acc x z hp (by simp) (by omega) o) ?_ (fun _ _ k => k) (fun _ _ k => k.elim) (fun _ _ k => k.elim) ?_
    · rintro e z' ⟨a, r', x', h1, rfl, o'⟩
      obtain ⟨hp', hlt⟩ := hP _ _ _ hp h1
      refine ⟨r'.length, [x'], by simpa using hlt, rfl, rfl, r', acc ++ [a], x', rfl, rfl, hp', by simp only [List.length_cons] at hle hlt; omega, ?_, ?_, o'⟩
      · simp only [List.length_append, List.length_cons, List.length_nil] at hacc hlt ⊢
        omega
      · rw [hm]
        have e1 : pMany one (b :: r).length (b :: r) = (pMany one r.length r').map fun l => a :: l := by
          rw [List.length_cons, pMany, h1]
          rfl
        have e2 : pMany one r.length r' = pMany one r'.length r' := pMany_fuel hP hp' (by simp only [List.length_cons] at hlt; omega)
        rw [e1, e2]
        cases pMany one r'.length r' with
        | none => rfl
        | some l => simp
    · rintro c e z' ⟨rfl, h1, r', o'⟩
      refine hX e z' ?_ ⟨r', o'⟩
      rw [hm, List.length_cons, pMany, h1]
      rfl
end
section
variable {i : Nat} {row rem : List Nat} {R : List SP} {s : Sto}
theorem we_bm1 {ty : Sto → Dt → Bool} {op : Dt → Dt → Sto → Out Dt} {fo fe : Ex} {env : En} {s s1 : Sto} {x : Dt} {Q : Dt → Sto → Prop} {X : Nat → Sto → Prop} (h1 : fo env s = .ok x s1) (ht : ty s1 x = true) (h : Pd.WE fe env s1 (fun y s2 => WO (op x y s2) Q X) X) : Pd.WE (eBm1 ty op fo fe) env s Q X := by
  unfold Pd.WE
  rw [ev_bm1]
  refine wo_bnd ?_
  rw [h1]
  show WO (if ty s1 x = true then _ else _) _ _
  rw [if_pos ht]
  exact wo_bnd h
theorem app_run {α : Type} {f : α → Dt} {acc : List α} {a : α} {j : Nat} {L : List SP} {z : Sto} {Q : Dt → Sto → Prop} {X : Nat → Sto → Prop} (hz : acc.length ≤ 500000) (o : Own (At j (.lst (acc.map f)) :: L) z) (h : ∀ z', Own (At j (.lst ((acc ++ [a]).map f)) :: L) z' → Q .non z') : WO (dApp (.obj j) (f a) z) Q X := by
  refine wo_of (dApp_at o.get (by rw [List.length_map]; omega)) (h _ ?_)
  rw [List.map_append]
  exact o.set _
abbrev Lo (r : List Nat) : Prop := ∀ b ∈ r, b < 256
theorem pByte_P (r : List Nat) (a : Nat) (r' : List Nat) (h : Lo r) (e : pByte r = some (a, r')) : Lo r' ∧ r'.length < r.length := by
  refine ⟨(pByte_lt h e).1, ?_⟩
  match r, e with
  | p :: q, e => cases e; simp
theorem pCnt_P (r : List Nat) (a : List Nat) (r' : List Nat) (h : Lo r) (e : pCnt r = some (a, r')) : Lo r' ∧ r'.length < r.length := by
  obtain ⟨x, _, y⟩ := pCnt_lt h e
  exact ⟨x, by omega⟩
theorem pPair_P (r : List Nat) (a : List Nat × Nat) (r' : List Nat) (h : Lo r) (e : pPair r = some (a, r')) : Lo r' ∧ r'.length < r.length := by
  unfold pPair at e
  obtain ⟨⟨x, r1⟩, h1, h2⟩ := Option.bind_eq_some_iff.mp e
  obtain ⟨⟨y, r2⟩, h3, h4⟩ := Option.map_eq_some_iff.mp h2
  cases h4
  obtain ⟨k1, k2⟩ := pCnt_P _ _ _ h h1
  obtain ⟨k3, k4⟩ := pByte_P _ _ _ k1 h3
  exact ⟨k3, Nat.lt_trans k4 k2⟩
theorem fin_some {w : Str} {n j : Nat} {x : Option Dt} {l : List Dt} {L : List SP} {z : Sto} {K : Ks} (o : Own (At j (.lst l) :: L) z) (h : K.rt (.tup [.str w, nD n, .tup l]) z) : WS u_read_some_4 K [some (.obj i), some (.str w), some (nD n), some (.obj j), x] z := by
  have e : (eUn dTuple (eVar 3)) [some (.obj i), some (.str w), some (nD n), some (.obj j), x] z = .ok (.tup l) z := (un_ok (fa := eVar 3) rfl).trans (by unfold dTuple; rw [asQ_obj o.get]; rfl)
  unfold u_read_some_4
  refine ws_ret (we_tup ?_)
  refine wa_cons (we_ok rfl ?_)
  refine wa_cons (we_ok rfl ?_)
  refine wa_cons (we_ok e ?_)
  refine wa_nil ?_
  exact h
theorem some_run {k : Nat} {α : Type} {one : List Nat → Option (α × List Nat)} {f : α → Dt} {g : Nat → List α → Pz}
    (hP : ∀ r a r', Lo r → one r = some (a, r') → Lo r' ∧ r'.length < r.length)
    (hps : ∀ r, pSome k r = (pNum r).bind fun x => (pMany one x.2.length x.2).map fun l => (g x.1 l, []))
    (hg : ∀ n l, (g n l).d = .tup [.str (Str.ofString (kw k)), nD n, .tup (l.map f)])
    (turn : ∀ (n j : Nat) (K : Ks) (r : List Nat) (acc : List α) (x : Option Dt) (z : Sto), Lo r → r ≠ [] → acc.length ≤ 500000 → Own (BrR i row r :: At j (.lst (acc.map f)) :: R) z →
      WS l_read_some_1 ⟨fun e z' => ∃ a r' x', one r = some (a, r') ∧ e = [some (.obj i), some (.str (Str.ofString (kw k))), some (nD n), some (.obj j), x'] ∧ Own (BrR i row r' :: At j (.lst ((acc ++ [a]).map f)) :: R) z', K.rt, fun _ _ => False, fun _ _ => False, fun c _ z' => c = 4 ∧ one r = none ∧ ∃ r', Own (BrR i row r' :: R) z'⟩ [some (.obj i), some (.str (Str.ofString (kw k))), some (nD n), some (.obj j), x] z)
    (hl : rem.length ≤ 80000) (hr : Lo rem) (o : Own (BrR i row rem :: R) s) : RdO (m_read_some [.obj i, .str (Str.ofString (kw k))] s) (pSome k rem) Pz.d i row R := by
  refine rd_out ?_
  rw [hps]
  unfold m_read_some
  refine wf_fn ?_
  unfold b_read_some
  refine ws_seq (f := u_read_some_1) (ws_set (we_rd (fo := eVar 0) rfl o (ev_num o) (fun n r1 z1 p1 o1 => ?_) (fun r1 z1 p1 o1 => ⟨rfl, by rw [p1]; rfl, _, o1⟩)))
  have k1 := (pNum_lt hr p1).2
  have k2 := num_len p1
  rw [p1]
  show WS (sSeq u_read_some_2 (sSeq u_read_some_3 u_read_some_4)) _ _ _
  refine ws_step (f := u_read_some_2) (e := [some (.obj i), some (.str (Str.ofString (kw k))), some (nD n), some (.obj z1.length), none]) (s1 := z1 ++ [.lst []]) ?_ ?_
  · exact st_asg rfl
  generalize hj : z1.length = j
  have o2 : Own (BrR i row r1 :: At j (.lst []) :: R) (z1 ++ [.lst []]) := by
    subst hj
    exact (Own.pm (o1.new (.lst [])) (by repeat first | exact Pm.rfl | (apply Pm.cons; repeat first | exact Tk.hd | apply Tk.tl) | apply Pm.skip))
  generalize z1 ++ [.lst []] = z2 at o2 ⊢
  refine ws_seq ?_
  unfold u_read_some_3
  refine many_run (one := one) (f := f) (P := Lo) hP (fun r acc x z hp hne hacc o => turn n j _ r acc x z hp hne hacc o) (by omega) k1 o2 (fun l x z h o => ?_) (fun e z h o => ?_)
  · dsimp only
    refine fin_some (l := l.map f) (L := BrR i row [] :: R) ((Own.pm o (by repeat first | exact Pm.rfl | (apply Pm.cons; repeat first | exact Tk.hd | apply Tk.tl) | apply Pm.skip))) ?_
    refine ⟨g n l, [], ?_, (hg n l).symm, (Own.pm o (by repeat first | exact Pm.rfl | (apply Pm.cons; repeat first | exact Tk.hd | apply Tk.tl) | apply Pm.skip))⟩
    show (pMany one r1.length r1).map _ = _
    rw [h]
    rfl
  · refine ⟨rfl, ?_, o⟩
    show (pMany one r1.length r1).map _ = _
    rw [h]
    rfl
theorem ev_some9 (hl : rem.length ≤ 80000) (hr : Lo rem) (o : Own (BrR i row rem :: R) s) : RdO (m_read_some [.obj i, .str (Str.ofString (kw 9))] s) (pSome 9 rem) Pz.d i row R := by
  refine some_run (k := 9) (one := pByte) (f := nD) (g := fun n l => .hrd n l) pByte_P (fun r => by unfold pSome; simp) (fun n l => by simp only [Pz.d, Pz.pk, Pk.d, List.map_map]; rfl) (fun n j K r acc x z hp hne hacc o => ?_) hl hr o
  unfold l_read_some_1
  refine ws_ifT (s1 := z) (t_w rfl (by decide +kernel)) ?_
  refine ws_expr (we_bm1 (fo := eVar 3) (x := .obj j) (s1 := z) rfl (isLst_obj ((Own.at_ (i := j) o (by repeat first | exact Tk.hd | apply Tk.tl)))) ?_)
  refine we_rd (fo := eVar 0) rfl o (ev_byte o) (fun b r2 z2 p2 o2 => ?_) (fun r2 z2 p2 o2 => ⟨rfl, p2, r2, (Own.pm o2 (by repeat first | exact Pm.rfl | (apply Pm.cons; repeat first | exact Tk.hd | apply Tk.tl) | apply Pm.skip))⟩)
  refine app_run (f := nD) hacc (L := BrR i row r2 :: R) ((Own.pm o2 (by repeat first | exact Pm.rfl | (apply Pm.cons; repeat first | exact Tk.hd | apply Tk.tl) | apply Pm.skip))) (fun z' o3 => ⟨b, r2, x, p2, rfl, (Own.pm o3 (by repeat first | exact Pm.rfl | (apply Pm.cons; repeat first | exact Tk.hd | apply Tk.tl) | apply Pm.skip))⟩)
theorem ev_some10 (hl : rem.length ≤ 80000) (hr : Lo rem) (o : Own (BrR i row rem :: R) s) : RdO (m_read_some [.obj i, .str (Str.ofString (kw 10))] s) (pSome 10 rem) Pz.d i row R := by
  refine some_run (k := 10) (one := pCnt) (f := tD) (g := fun n l => .drp n l) pCnt_P (fun r => by unfold pSome; simp) (fun n l => rfl) (fun n j K r acc x z hp hne hacc o => ?_) hl hr o
  unfold l_read_some_1
  refine ws_ifF (s1 := z) (t_w rfl (by decide +kernel)) (ws_ifT (s1 := z) (t_w rfl (by decide +kernel)) ?_)
  refine ws_expr (we_bm1 (fo := eVar 3) (x := .obj j) (s1 := z) rfl (isLst_obj ((Own.at_ (i := j) o (by repeat first | exact Tk.hd | apply Tk.tl)))) ?_)
  refine we_rd (fo := eVar 0) rfl o (ev_cnt hp o) (fun b r2 z2 p2 o2 => ?_) (fun r2 z2 p2 o2 => ⟨rfl, p2, r2, (Own.pm o2 (by repeat first | exact Pm.rfl | (apply Pm.cons; repeat first | exact Tk.hd | apply Tk.tl) | apply Pm.skip))⟩)
  refine app_run (f := tD) hacc (L := BrR i row r2 :: R) ((Own.pm o2 (by repeat first | exact Pm.rfl | (apply Pm.cons; repeat first | exact Tk.hd | apply Tk.tl) | apply Pm.skip))) (fun z' o3 => ⟨b, r2, x, p2, rfl, (Own.pm o3 (by repeat first | exact Pm.rfl | (apply Pm.cons; repeat first | exact Tk.hd | apply Tk.tl) | apply Pm.skip))⟩)
theorem ev_some8 (hl : rem.length ≤ 80000) (hr : Lo rem) (o : Own (BrR i row rem :: R) s) : RdO (m_read_some [.obj i, .str (Str.ofString (kw 8))] s) (pSome 8 rem) Pz.d i row R := by
  refine some_run (k := 8) (one := pPair) (f := fun e : List Nat × Nat => .tup [tD e.1, nD e.2]) (g := fun n l => .hea n l) pPair_P (fun r => by unfold pSome; simp) (fun n l => by simp only [Pz.d, Pz.pk, Pk.d, List.map_map]; rfl) (fun n j K r acc x z hp hne hacc o => ?_) hl hr o
  unfold l_read_some_1
  refine ws_ifF (s1 := z) (t_w rfl (by decide +kernel)) (ws_ifF (s1 := z) (t_w rfl (by decide +kernel)) ?_)
  refine ws_seq (ws_set (we_rd (fo := eVar 0) rfl o (ev_cnt hp o) (fun t r2 z2 p2 o2 => ?_) (fun r2 z2 p2 o2 => ⟨rfl, by unfold pPair; rw [p2]; rfl, r2, (Own.pm o2 (by repeat first | exact Pm.rfl | (apply Pm.cons; repeat first | exact Tk.hd | apply Tk.tl) | apply Pm.skip))⟩)))
  dsimp only
  refine ws_expr (we_bm1 (fo := eVar 3) (x := .obj j) (s1 := z2) rfl (isLst_obj ((Own.at_ (i := j) o2 (by repeat first | exact Tk.hd | apply Tk.tl)))) ?_)
  refine we_tup (wa_cons (we_ok rfl ?_))
  refine wa_cons (we_rd (fo := eVar 0) rfl o2 (ev_byte o2) (fun b r3 z3 p3 o3 => ?_) (fun r3 z3 p3 o3 => ⟨rfl, by unfold pPair; rw [p2]; show (pByte r2).map _ = _; rw [p3]; rfl, r3, (Own.pm o3 (by repeat first | exact Pm.rfl | (apply Pm.cons; repeat first | exact Tk.hd | apply Tk.tl) | apply Pm.skip))⟩))
  refine wa_nil ?_
  refine app_run (f := fun e : List Nat × Nat => .tup [tD e.1, nD e.2]) (a := (t, b)) hacc (L := BrR i row r3 :: R) ((Own.pm o3 (by repeat first | exact Pm.rfl | (apply Pm.cons; repeat first | exact Tk.hd | apply Tk.tl) | apply Pm.skip))) (fun z' o4 => ⟨(t, b), r3, some (tD t), by unfold pPair; rw [p2]; show (pByte r2).map _ = _; rw [p3]; rfl, rfl, (Own.pm o4 (by repeat first | exact Pm.rfl | (apply Pm.cons; repeat first | exact Tk.hd | apply Tk.tl) | apply Pm.skip))⟩)
end
end Tx
namespace Tx
open PySem L2 Pd
/-! the head, and the whole -/
def manyOf (row : List Nat) : Nat := if row.getD 1 0 < 128 then row.getD 1 0 else row.getD 1 0 - 128 + 128 * row.getD 2 0
def pHead (row : List Nat) : Option (Option (Nat × Nat × Nat)) :=
  if (!row.isEmpty && !(decide (16 ≤ row.getD 0 0) && decide (row.getD 0 0 < 240))) = true then none
  else if (decide (row.length < 2) || (decide (128 ≤ row.getD 1 0) && decide (row.length < 3))) = true then some none
  else if ((decide (128 ≤ row.getD 1 0) && !(decide (1 ≤ row.getD 2 0) && decide (row.getD 2 0 < 128))) || decide (2000 < manyOf row)) = true then none
  else some (some (row.getD 0 0, manyOf row, if row.getD 1 0 < 128 then 2 else 3))
def hD : Option (Nat × Nat × Nat) → Dt
  | none => .non
  | some (a, m, f) => .tup [nD a, nD m, nD f]
section
variable {i : Nat} {row rem : List Nat} {R : List SP} {s : Sto}
theorem lst_ix {l : List Nat} {j : Nat} {k : Nat} {b : Nat} {env : En} {s : Sto} (hv : env[j]? = some (some (.lst (bys l)))) (hb : l[k]? = some b) : (eOp dIx (eVar j) (eC (.int (k : Nat)))) env s = .ok (nD b) s := by
  refine (op_ok (fb := eC (.int (k : Nat))) (var_ok hv) rfl).trans ?_
  rw [dIx_lst, atI_ofNat, List.getElem?_map, hb]
  rfl
theorem lst_len {l : List Nat} {j : Nat} {env : En} {s : Sto} (hv : env[j]? = some (some (.lst (bys l)))) : (eUn dLen (eVar j)) env s = .ok (nD l.length) s := by
  refine (un_ok (var_ok hv)).trans ?_
  rw [dLen_lst, bys_len]
theorem cmpN {e : Ex} {env : En} {s : Sto} {n : Nat} (m : Nat) (h : e env s = .ok (nD n) s) : (tBl (eOp dLt e (eC (.int (m : Nat))))) env s = .ok (decide (n < m)) s ∧ (tBl (eOp dGe e (eC (.int (m : Nat))))) env s = .ok (decide (m ≤ n)) s ∧ (tBl (eOp dGt e (eC (.int (m : Nat))))) env s = .ok (decide (m < n)) s := by
  refine ⟨?_, ?_, ?_⟩
  · refine tBl_ok ((op_ok (fb := eC (.int (m : Nat))) h rfl).trans ?_)
    by_cases hh : n < m
    · have : (n : Int) < (m : Int) := by omega
      simp only [runR, Nat.reduceAdd, Nat.reduceSub, Int.reduceBEq, Int.reduceEq, Int.reduceLT, Int.reduceLE, Int.reduceNeg, Int.reduceAdd, Int.reduceSub, Int.reduceMul, Int.reduceToNat, Nat.reduceLT, Nat.reduceLeDiff, reduceIte, Int.reduceNe, Int.reduceBNe, String.reduceBEq, dLt, this, hh]
    · have : ¬ (n : Int) < (m : Int) := by omega
      simp only [runR, Nat.reduceAdd, Nat.reduceSub, Int.reduceBEq, Int.reduceEq, Int.reduceLT, Int.reduceLE, Int.reduceNeg, Int.reduceAdd, Int.reduceSub, Int.reduceMul, Int.reduceToNat, Nat.reduceLT, Nat.reduceLeDiff, reduceIte, Int.reduceNe, Int.reduceBNe, String.reduceBEq, dLt, this, hh]
  · refine tBl_ok ((op_ok (fb := eC (.int (m : Nat))) h rfl).trans ?_)
    by_cases hh : m ≤ n
    · have : (m : Int) ≤ (n : Int) := by omega
      simp only [runR, Nat.reduceAdd, Nat.reduceSub, Int.reduceBEq, Int.reduceEq, Int.reduceLT, Int.reduceLE, Int.reduceNeg, Int.reduceAdd, Int.reduceSub, Int.reduceMul, Int.reduceToNat, Nat.reduceLT, Nat.reduceLeDiff, reduceIte, Int.reduceNe, Int.reduceBNe, String.reduceBEq, dGe, this, hh]
    · have : ¬ (m : Int) ≤ (n : Int) := by omega
      simp only [runR, Nat.reduceAdd, Nat.reduceSub, Int.reduceBEq, Int.reduceEq, Int.reduceLT, Int.reduceLE, Int.reduceNeg, Int.reduceAdd, Int.reduceSub, Int.reduceMul, Int.reduceToNat, Nat.reduceLT, Nat.reduceLeDiff, reduceIte, Int.reduceNe, Int.reduceBNe, String.reduceBEq, dGe, this, hh]
  · refine tBl_ok ((op_ok (fb := eC (.int (m : Nat))) h rfl).trans ?_)
    by_cases hh : m < n
    · have : (m : Int) < (n : Int) := by omega
      simp only [runR, Nat.reduceAdd, Nat.reduceSub, Int.reduceBEq, Int.reduceEq, Int.reduceLT, Int.reduceLE, Int.reduceNeg, Int.reduceAdd, Int.reduceSub, Int.reduceMul, Int.reduceToNat, Nat.reduceLT, Nat.reduceLeDiff, reduceIte, Int.reduceNe, Int.reduceBNe, String.reduceBEq, dGt, this, hh]
    · have : ¬ (m : Int) < (n : Int) := by omega
      simp only [runR, Nat.reduceAdd, Nat.reduceSub, Int.reduceBEq, Int.reduceEq, Int.reduceLT, Int.reduceLE, Int.reduceNeg, Int.reduceAdd, Int.reduceSub, Int.reduceMul, Int.reduceToNat, Nat.reduceLT, Nat.reduceLeDiff, reduceIte, Int.reduceNe, Int.reduceBNe, String.reduceBEq, dGt, this, hh]
theorem inR {e f : Ex} {env : En} {s : Sto} {n hi : Nat} (lo : Nat) (h : e env s = .ok (nD n) s) (hf : f env s = .ok (nD hi) s) : (tNot (tBl (eChain dLe dLt (eC (.int (lo : Nat))) e f))) env s = .ok (!(decide (lo ≤ n) && decide (n < hi))) s := by
  by_cases h1 : lo ≤ n
  · have g1 : (lo : Int) ≤ n := by omega
    by_cases h2 : n < hi
    · have g2 : (n : Int) < hi := by omega
      simp only [runR, Nat.reduceAdd, Nat.reduceSub, Int.reduceBEq, Int.reduceEq, Int.reduceLT, Int.reduceLE, Int.reduceNeg, Int.reduceAdd, Int.reduceSub, Int.reduceMul, Int.reduceToNat, Nat.reduceLT, Nat.reduceLeDiff, reduceIte, Int.reduceNe, Int.reduceBNe, String.reduceBEq, h, hf, dLe, dLt, g1, g2, h1, h2]
    · have g2 : ¬ (n : Int) < hi := by omega
      simp only [runR, Nat.reduceAdd, Nat.reduceSub, Int.reduceBEq, Int.reduceEq, Int.reduceLT, Int.reduceLE, Int.reduceNeg, Int.reduceAdd, Int.reduceSub, Int.reduceMul, Int.reduceToNat, Nat.reduceLT, Nat.reduceLeDiff, reduceIte, Int.reduceNe, Int.reduceBNe, String.reduceBEq, h, hf, dLe, dLt, g1, g2, h1, h2]
  · have g1 : ¬ (lo : Int) ≤ n := by omega
    simp only [runR, Nat.reduceAdd, Nat.reduceSub, Int.reduceBEq, Int.reduceEq, Int.reduceLT, Int.reduceLE, Int.reduceNeg, Int.reduceAdd, Int.reduceSub, Int.reduceMul, Int.reduceToNat, Nat.reduceLT, Nat.reduceLeDiff, reduceIte, Int.reduceNe, Int.reduceBNe, String.reduceBEq, h, dLe, g1, h1]
theorem tAnd_ok {t u : Tx} {env : En} {s : Sto} {a b : Bool} (h : t env s = .ok a s) (k : a = true → u env s = .ok b s) : (tAnd t u) env s = .ok (a && b) s := by
  rw [ev_and]
  unfold bnd
  rw [h]
  cases a
  · rfl
  · exact k rfl
theorem tOr_ok {t u : Tx} {env : En} {s : Sto} {a b : Bool} (h : t env s = .ok a s) (k : a = false → u env s = .ok b s) : (tOr t u) env s = .ok (a || b) s := by
  rw [ev_or]
  unfold bnd
  rw [h]
  cases a
  · exact k rfl
  · rfl
theorem getD_at {l : List Nat} {k : Nat} (h : k < l.length) : l[k]? = some (l.getD k 0) := by
  rw [List.getD_eq_getElem?_getD, List.getElem?_eq_getElem h]
  rfl
theorem ev_head (row : List Nat) (s : Sto) : m_head_of [.lst (bys row)] s = match pHead row with
    | none => .exc 4 s
    | some h => .ok (hD h) s := by
  suffices k : WO (m_head_of [.lst (bys row)] s) (fun d z => ∃ h, pHead row = some h ∧ d = hD h ∧ z = s) (fun c z => c = 4 ∧ pHead row = none ∧ z = s) by
    cases hq : m_head_of [.lst (bys row)] s with
    | ok d z =>
      rw [hq] at k
      obtain ⟨h, e, rfl, rfl⟩ := k
      rw [e]
    | exc c z =>
      rw [hq] at k
      obtain ⟨rfl, e, rfl⟩ := k
      rw [e]
    | bad => rw [hq] at k; exact k.elim
  unfold m_head_of
  refine wf_fn ?_
  unfold b_head_of
  show WS _ _ [some (.lst (bys row)), none] s
  have t1 : (tAnd (tTru (eVar 0)) (tNot (tBl (eChain dLe dLt (eC (.int 16)) (eOp dIx (eVar 0) (eC (.int 0))) (eOp dMul (eC (.int 16)) (eUn dLen (eC (.lst ((c_KINDS ++ c_MORE_KINDS).map Dt.str))))))))) [some (.lst (bys row)), none] s = .ok (!row.isEmpty && !(decide (16 ≤ row.getD 0 0) && decide (row.getD 0 0 < 240))) s := by
    refine tAnd_ok (tru_ok rfl (by cases row <;> rfl)) (fun h => ?_)
    have hl : 0 < row.length := by
      cases row with
      | nil => cases h
      | cons a r => simp
    have k2 : (eOp dMul (eC (.int 16)) (eUn dLen (eC (.lst ((c_KINDS ++ c_MORE_KINDS).map Dt.str))))) [some (.lst (bys row)), none] s = .ok (nD 240) s := (op_ok (fa := eC (.int 16)) (fb := eUn dLen (eC (.lst ((c_KINDS ++ c_MORE_KINDS).map Dt.str)))) rfl rfl).trans ((mulL (by decide) (by decide)).trans rfl)
    exact inR 16 (lst_ix (k := 0) rfl (getD_at hl)) k2
  by_cases c1 : (!row.isEmpty && !(decide (16 ≤ row.getD 0 0) && decide (row.getD 0 0 < 240))) = true
  · refine ws_seq (ws_ifT (t1.trans (by rw [c1])) (ws_ex rfl ⟨rfl, ?_, rfl⟩))
    rw [pHead, if_pos c1]
  have c1f := Bool.eq_false_iff.mpr c1
  refine ws_step (st_ifF (t1.trans (by rw [c1f]))) ?_
  have ln := lst_len (l := row) (j := 0) (env := [some (.lst (bys row)), none]) (s := s) rfl
  have t2 : (tOr (tBl (eOp dLt (eUn dLen (eVar 0)) (eC (.int 2)))) (tAnd (tBl (eOp dGe (eOp dIx (eVar 0) (eC (.int 1))) (eC (.int 128)))) (tBl (eOp dLt (eUn dLen (eVar 0)) (eC (.int 3)))))) [some (.lst (bys row)), none] s = .ok (decide (row.length < 2) || (decide (128 ≤ row.getD 1 0) && decide (row.length < 3))) s := by
    refine tOr_ok (cmpN 2 ln).1 (fun h => ?_)
    have hl : 1 < row.length := by
      have := of_decide_eq_false h
      omega
    exact tAnd_ok (cmpN 128 (lst_ix (k := 1) rfl (getD_at hl))).2.1 (fun _ => (cmpN 3 ln).1)
  by_cases c2 : (decide (row.length < 2) || (decide (128 ≤ row.getD 1 0) && decide (row.length < 3))) = true
  · refine ws_out (st_ifR (t2.trans (by rw [c2])) (d := .non) (s2 := s) rfl) ⟨none, ?_, rfl, rfl⟩
    rw [pHead, if_neg c1, if_pos c2]
  have c2f := Bool.eq_false_iff.mpr c2
  refine ws_step (st_ifF (t2.trans (by rw [c2f]))) ?_
  have hl1 : 1 < row.length := by
    simp only [Bool.or_eq_true, decide_eq_true_eq, not_or] at c2
    omega
  have hl2 : 128 ≤ row.getD 1 0 → 2 < row.length := fun h => by
    simp only [Bool.or_eq_true, Bool.and_eq_true, decide_eq_true_eq, not_or, not_and] at c2
    have := c2.2 h
    omega
  have x1 : ∀ {x : Option Dt}, (eOp dIx (eVar 0) (eC (.int 1))) [some (.lst (bys row)), x] s = .ok (nD (row.getD 1 0)) s := fun {x} => lst_ix (k := 1) rfl (getD_at hl1)
  have x2 : 128 ≤ row.getD 1 0 → ∀ {x : Option Dt}, (eOp dIx (eVar 0) (eC (.int 2))) [some (.lst (bys row)), x] s = .ok (nD (row.getD 2 0)) s := fun h {x} => lst_ix (k := 2) rfl (getD_at (hl2 h))
  have e3 : (eIf (tBl (eOp dLt (eOp dIx (eVar 0) (eC (.int 1))) (eC (.int 128)))) (eOp dIx (eVar 0) (eC (.int 1))) (eOp (dAdd nwF) (eOp dSub (eOp dIx (eVar 0) (eC (.int 1))) (eC (.int 128))) (eOp dMul (eC (.int 128)) (eOp dIx (eVar 0) (eC (.int 2)))))) [some (.lst (bys row)), none] s = .ok (nD (manyOf row)) s := by
    refine (ex_if (cmpN 128 x1).1).trans ?_
    unfold manyOf
    by_cases h : row.getD 1 0 < 128
    · rw [decide_eq_true h, if_pos rfl, if_pos h]
      exact x1
    · rw [decide_eq_false h, if_neg (by decide), if_neg h]
      have y1 := (op_ok (op := dSub) (fb := eC (.int 128)) (x1 (x := none)) rfl)
      have y2 := (op_ok (op := dMul) (fa := eC (.int 128)) rfl (x2 (by omega) (x := none))).trans (mulL (by decide) (by decide))
      refine (op_ok (op := dAdd nwF) y1 y2).trans ?_
      show Out.ok (Dt.int ((row.getD 1 0 : Int) - 128 + 128 * (row.getD 2 0 : Int))) s = _
      have : (row.getD 1 0 : Int) - 128 + 128 * (row.getD 2 0 : Int) = ((row.getD 1 0 - 128 + 128 * row.getD 2 0 : Nat) : Int) := by omega
      rw [this]
  refine ws_step (e := [some (.lst (bys row)), some (nD (manyOf row))]) (st_asg e3) ?_
  have t4 : (tOr (tAnd (tBl (eOp dGe (eOp dIx (eVar 0) (eC (.int 1))) (eC (.int 128)))) (tNot (tBl (eChain dLe dLt (eC (.int 1)) (eOp dIx (eVar 0) (eC (.int 2))) (eC (.int 128)))))) (tBl (eOp dGt (eVar 1) (eC (.int 2000))))) [some (.lst (bys row)), some (nD (manyOf row))] s = .ok ((decide (128 ≤ row.getD 1 0) && !(decide (1 ≤ row.getD 2 0) && decide (row.getD 2 0 < 128))) || decide (2000 < manyOf row)) s := by
    refine tOr_ok (tAnd_ok (cmpN 128 x1).2.1 (fun h => inR 1 (x2 (of_decide_eq_true h)) (f := eC (.int 128)) (hi := 128) rfl)) (fun _ => (cmpN (n := manyOf row) 2000 (e := eVar 1) rfl).2.2)
  by_cases c4 : ((decide (128 ≤ row.getD 1 0) && !(decide (1 ≤ row.getD 2 0) && decide (row.getD 2 0 < 128))) || decide (2000 < manyOf row)) = true
  · refine ws_seq (ws_ifT (t4.trans (by rw [c4])) (ws_ex rfl ⟨rfl, ?_, rfl⟩))
    rw [pHead, if_neg c1, if_neg c2, if_pos c4]
  have c4f := Bool.eq_false_iff.mpr c4
  refine ws_step (st_ifF (t4.trans (by rw [c4f]))) ?_
  refine ws_ret (we_tup (wa_cons (we_ok (lst_ix (k := 0) rfl (getD_at (by omega))) ?_)))
  refine wa_cons (we_ok rfl ?_)
  have e5 : (eIf (tBl (eOp dLt (eOp dIx (eVar 0) (eC (.int 1))) (eC (.int 128)))) (eC (.int 2)) (eC (.int 3))) [some (.lst (bys row)), some (nD (manyOf row))] s = .ok (nD (if row.getD 1 0 < 128 then 2 else 3)) s := by
    refine (ex_if (cmpN 128 x1).1).trans ?_
    by_cases h : row.getD 1 0 < 128
    · rw [decide_eq_true h, if_pos rfl, if_pos h]; rfl
    · rw [decide_eq_false h, if_neg (by decide), if_neg h]; rfl
  refine wa_cons (we_ok e5 ?_)
  refine wa_nil ⟨some (row.getD 0 0, manyOf row, if row.getD 1 0 < 128 then 2 else 3), ?_, rfl, rfl⟩
  rw [pHead, if_neg c1, if_neg c2, if_neg c4]
end
section
variable {i : Nat} {row rem : List Nat} {R : List SP} {s : Sto}
theorem kw_con (k : Nat) (h : kOk k) : (Str.ofString (kw k) == Str.ofString "connect") = (k == 1) ∧ (Str.ofString (kw k) == Str.ofString "greeted") = (k == 2) ∧ (Str.ofString (kw k) == Str.ofString "say") = (k == 3) := by
  have : k = 1 ∨ k = 2 ∨ k = 3 ∨ k = 4 ∨ k = 5 ∨ k = 6 ∨ k = 7 ∨ k = 8 ∨ k = 9 ∨ k = 10 ∨ k = 11 ∨ k = 12 ∨ k = 13 ∨ k = 14 := by unfold kOk at h; omega
  rcases this with e | e | e | e | e | e | e | e | e | e | e | e | e | e <;> subst e <;> exact ⟨by decide +kernel, by decide +kernel, by decide +kernel⟩
theorem kw_some (k : Nat) (h : kOk k) : (Str.ofString "hear" == Str.ofString (kw k) || (Str.ofString "heard" == Str.ofString (kw k) || Str.ofString "drop" == Str.ofString (kw k))) = (k == 8 || (k == 9 || k == 10)) := by
  have : k = 1 ∨ k = 2 ∨ k = 3 ∨ k = 4 ∨ k = 5 ∨ k = 6 ∨ k = 7 ∨ k = 8 ∨ k = 9 ∨ k = 10 ∨ k = 11 ∨ k = 12 ∨ k = 13 ∨ k = 14 := by unfold kOk at h; omega
  rcases this with e | e | e | e | e | e | e | e | e | e | e | e | e | e <;> subst e <;> decide +kernel
theorem kw_more (k : Nat) (h : kOk k) : (c_MORE_KINDS.any fun e => e == Str.ofString (kw k)) = decide (12 ≤ k) := by
  have : k = 1 ∨ k = 2 ∨ k = 3 ∨ k = 4 ∨ k = 5 ∨ k = 6 ∨ k = 7 ∨ k = 8 ∨ k = 9 ∨ k = 10 ∨ k = 11 ∨ k = 12 ∨ k = 13 ∨ k = 14 := by unfold kOk at h; omega
  rcases this with e | e | e | e | e | e | e | e | e | e | e | e | e | e <;> subst e <;> decide +kernel
theorem dIn_lsks {s : Sto} {x : Str} {a : List Str} : dIn (.str x) (.lsk (a.map .str)) s = .ok (.bl (a.any fun e => e == x)) s := by
  have hf : (a.map Dt.str).all flatD = true := by simp [flatD]
  have he : ((a.map Dt.str).any fun e => feq e (.str x)) = a.any fun e => e == x := by
    rw [List.any_map]
    rfl
  simp only [dIn, inB, asQ_lsk, hf, he]
  rfl
theorem wo_rd {o : Out Dt} {α : Type} {p : Option (α × List Nat)} {f : α → Dt} (h : RdO o p f i row R) : WO o (fun d z => ∃ v r, p = some (v, r) ∧ d = f v ∧ Own (BrR i row r :: R) z) (fun c z => c = 4 ∧ p = none ∧ ∃ r, Own (BrR i row r :: R) z) :=
  rd_in h (fun v r z e o => ⟨v, r, e, rfl, o⟩) fun r z e o => ⟨rfl, e, r, o⟩
theorem call_we {f : Fn} {fs : List Ex} {ds : List Dt} {env : En} {Q : Dt → Sto → Prop} {X : Nat → Sto → Prop} (h : evs fs env s = .ok ds s) (k : WO (f ds s) Q X) : Pd.WE (eCall f fs) env s Q X := we_call (wa_ok h k)
theorem ev_rrest {k fl : Nat} (hk : kOk k) (hl : rem.length ≤ 80000) (hr : Lo rem) (o : Own (BrR i row rem :: R) s) : RdO (m_read_rest [.str (Str.ofString (kw k)), nD fl, .obj i] s) (pRest k fl rem) Pz.d i row R := by
  obtain ⟨w1, w2, w3⟩ := kw_con k hk
  refine rd_out ?_
  unfold m_read_rest
  refine wf_fn ?_
  unfold b_read_rest
  show WS _ _ [some (.str (Str.ofString (kw k))), some (nD fl), some (.obj i)] s
  by_cases h1 : k = 1
  · subst h1
    refine ws_seq (ws_ifT (t_w rfl w1) (ws_ret (call_we (ds := [.obj i]) rfl ?_)))
    exact wo_rd (ev_con hr o)
  have h1b : (k == 1) = false := by simpa using h1
  refine ws_step (st_ifF (t_w rfl (w1.trans h1b))) ?_
  by_cases h2 : k = 2
  · subst h2
    refine ws_seq (ws_ifT (t_w rfl w2) (ws_ret (we_tup (wa_cons (we_ok rfl (wa_cons (we_op (we_rd (fo := eVar 2) rfl o (ev_byte o) (fun b r1 z1 p1 o1 => ?_) (fun r1 z1 p1 o1 => ⟨rfl, by unfold pRest; simp [p1], _, o1⟩)))))))))
    refine we_ok (fe := eC (.int 1)) rfl ?_
    refine wo_of (dEq_int) (wa_nil ?_)
    refine ⟨.gre (b == 1), r1, by unfold pRest; simp [p1], ?_, o1⟩
    rw [gre_d]
    show Dt.tup [wS "greeted", .bl ((b : Int) == ((1 : Nat) : Int))] = _
    rw [natB]
  have h2b : (k == 2) = false := by simpa using h2
  refine ws_step (st_ifF (t_w rfl (w2.trans h2b))) ?_
  by_cases h3 : k = 3
  · subst h3
    refine ws_seq (ws_ifT (t_w rfl w3) (ws_ret (call_we (ds := [.obj i, nD fl]) rfl ?_)))
    have : pRest 3 fl rem = pSay fl rem := by unfold pRest; simp
    rw [this]
    exact wo_rd (ev_rsay (by omega) hr o)
  have h3b : (k == 3) = false := by simpa using h3
  refine ws_step (st_ifF (t_w rfl (w3.trans h3b))) ?_
  have t4 : (tBl (eOp dIn (eVar 0) (eTup [eC (.str (Str.ofString "hear")), eC (.str (Str.ofString "heard")), eC (.str (Str.ofString "drop"))]))) [some (.str (Str.ofString (kw k))), some (nD fl), some (.obj i)] s = .ok (k == 8 || (k == 9 || k == 10)) s :=
    tBl_ok ((op_ok (fa := eVar 0) (fb := eTup [eC (.str (Str.ofString "hear")), eC (.str (Str.ofString "heard")), eC (.str (Str.ofString "drop"))]) rfl rfl).trans (by rw [dIn_t3, kw_some k hk]))
  by_cases h4 : k = 8 ∨ k = 9 ∨ k = 10
  · have h4b : (k == 8 || (k == 9 || k == 10)) = true := by simpa using h4
    refine ws_seq (ws_ifT (t4.trans (by rw [h4b])) (ws_ret (call_we (ds := [.obj i, .str (Str.ofString (kw k))]) rfl ?_)))
    have : pRest k fl rem = pSome k rem := by unfold pRest; rw [if_neg h1, if_neg h2, if_neg h3, if_pos h4]
    rw [this]
    rcases h4 with e | e | e
    · subst e; exact wo_rd (ev_some8 hl hr o)
    · subst e; exact wo_rd (ev_some9 hl hr o)
    · subst e; exact wo_rd (ev_some10 hl hr o)
  have h4b : (k == 8 || (k == 9 || k == 10)) = false := by
    cases hq : (k == 8 || (k == 9 || k == 10)) with
    | false => rfl
    | true => exact absurd (by simpa using hq) h4
  refine ws_step (st_ifF (t4.trans (by rw [h4b]))) ?_
  have t5 : (tBl (eOp dIn (eVar 0) (eC (.lsk (c_MORE_KINDS.map Dt.str))))) [some (.str (Str.ofString (kw k))), some (nD fl), some (.obj i)] s = .ok (decide (12 ≤ k)) s :=
    tBl_ok ((op_ok (fa := eVar 0) (fb := eC (.lsk (c_MORE_KINDS.map Dt.str))) rfl rfl).trans (by rw [dIn_lsks, kw_more k hk]))
  refine ws_ret (we_if (wt_ok t5 ?_))
  by_cases h5 : 12 ≤ k
  · rw [decide_eq_true h5, if_pos rfl]
    refine we_ok rfl ⟨.nul k, rem, ?_, rfl, o⟩
    unfold pRest
    rw [if_neg h1, if_neg h2, if_neg h3, if_neg h4, if_pos h5]
  · rw [decide_eq_false h5, if_neg (by decide)]
    have hp : pRest k fl rem = (pNum rem).map fun x => (.one k x.1, x.2) := by
      unfold pRest
      rw [if_neg h1, if_neg h2, if_neg h3, if_neg h4, if_neg h5]
    refine we_tup (wa_cons (we_ok rfl ?_))
    refine wa_cons (we_rd (fo := eVar 2) rfl o (ev_num o) (fun n r1 z1 p1 o1 => ?_) (fun r1 z1 p1 o1 => ⟨rfl, by rw [hp, p1]; rfl, _, o1⟩))
    exact wa_nil ⟨.one k n, r1, by rw [hp, p1]; rfl, rfl, o1⟩
end
end Tx
namespace Tx
open PySem L2 Pd
/-! what is written is read again: the plain part -/
theorem bs_vis {c : Nat} (h : bsgn c = true) : vis c = true ∧ sg c = c ∧ c < 256 := by
  unfold bsgn at h
  simp only [Bool.and_eq_true, decide_eq_true_eq, bne_iff_ne] at h
  refine ⟨by unfold vis; simp; omega, ?_, by omega⟩
  unfold sg
  rw [if_neg h.2]
theorem pText_ok : ∀ {l : List Nat} {r : List Nat}, (l.all bsgn = true) → pText l.length (l ++ r) = some (l, r)
  | [], r, _ => by cases r <;> rfl
  | c :: l, r, h => by
    rw [List.all_cons, Bool.and_eq_true] at h
    obtain ⟨h1, h2, _⟩ := bs_vis h.1
    rw [List.length_cons, List.cons_append, pText, if_pos h1, pText_ok h.2, h2]
    rfl
theorem pNum_ok {n : Nat} {r : List Nat} : pNum (num2 n ++ r) = some (n, r) := by
  show some (256 * (n / 256) + n % 256, r) = _
  rw [Nat.div_add_mod]
theorem pCnt_ok {l r : List Nat} (h : l.all bsgn = true) : pCnt (txtB l ++ r) = some (l, r) := by
  unfold pCnt txtB
  rw [List.append_assoc, pNum_ok]
  exact pText_ok h
theorem lo_app {a b : List Nat} (h : Lo a) (k : Lo b) : Lo (a ++ b) := fun x hx => by
  rcases List.mem_append.mp hx with q | q
  · exact h x q
  · exact k x q
theorem lo_txt {l : List Nat} (h : l.all bsgn = true) (hl : l.length < 65536) : Lo (txtB l) := by
  refine lo_app ?_ ?_
  · intro x hx
    unfold num2 at hx
    simp only [List.mem_cons, List.not_mem_nil, or_false] at hx
    omega
  · intro x hx
    rw [List.all_eq_true] at h
    exact (bs_vis (h x hx)).2.2
theorem lo_num {n : Nat} (h : n < 65536) : Lo (num2 n) := by
  intro x hx
  unfold num2 at hx
  simp only [List.mem_cons, List.not_mem_nil, or_false] at hx
  omega
theorem lo_one {n : Nat} (h : n < 256) : Lo [n] := by
  intro x hx
  rw [List.mem_singleton] at hx
  omega
theorem b2_le (b : Bool) : b2 b ≤ 1 := by cases b <;> decide
theorem b2_mod {b : Bool} : (b2 b == 1) = b := by cases b <;> rfl
theorem rest_lo {p : Pz} (h : p.Ok) : Lo p.rest := by
  cases p with
  | con hh c w =>
    obtain ⟨h1, h2⟩ := h
    have a := hearer_sg h1
    refine lo_app (lo_txt a.1 (by omega)) ?_
    cases w with
    | none => exact lo_one (by have := b2_le c; omega)
    | some t =>
      obtain ⟨q1, q2, q3⟩ := h2 t rfl
      have b := name_sg q1
      have d := body_sg q2
      have : Lo [flagT c t] := lo_one (by have := b2_le c; have := b2_le t.k; unfold flagT; omega)
      exact lo_app (a := [flagT c t]) this (lo_app (lo_txt b.1 (by omega)) (lo_txt d.1 (by omega)))
  | gre b => exact lo_one (by have := b2_le b; omega)
  | say t ag i =>
    obtain ⟨⟨q1, q2, q3⟩, q4⟩ := h
    have b := name_sg q1
    have d := body_sg q2
    refine lo_app (lo_app (lo_txt b.1 (by omega)) ?_) ?_
    · split
      · rename_i h5
        rw [if_pos h5] at q4
        unfold idN at q4
        exact lo_num (by omega)
      · exact fun x hx => nomatch hx
    · intro x hx
      have := d.1
      rw [List.all_eq_true] at this
      exact (bs_vis (this x hx)).2.2
  | one k i =>
    have := h.2
    unfold idN at this
    exact lo_num (by omega)
  | hea i l =>
    obtain ⟨h1, h2, h3⟩ := h
    unfold idN at h1
    refine lo_app (lo_num (by omega)) ?_
    intro x hx
    obtain ⟨e, he, hx⟩ := List.mem_flatMap.mp hx
    obtain ⟨q1, q2⟩ := h3 e he
    have b := wish_sg q1
    exact lo_app (lo_txt b.1 (by omega)) (lo_one (by omega)) x hx
  | hrd i l =>
    obtain ⟨h1, h2, h3⟩ := h
    unfold idN at h1
    refine lo_app (lo_num (by omega)) ?_
    intro x hx
    have := h3 x hx
    omega
  | drp i l =>
    obtain ⟨h1, h2, h3⟩ := h
    unfold idN at h1
    refine lo_app (lo_num (by omega)) ?_
    intro x hx
    obtain ⟨e, he, hx⟩ := List.mem_flatMap.mp hx
    have b := wish_sg (h3 e he)
    exact lo_txt b.1 (by omega) x hx
  | nul k => exact fun x hx => nomatch hx
theorem pMany_ok {α : Type} {one : List Nat → Option (α × List Nat)} {w : α → List Nat} : ∀ {l : List α} {n : Nat}, (∀ a ∈ l, w a ≠ []) → (∀ a ∈ l, ∀ r, one (w a ++ r) = some (a, r)) → (l.flatMap w).length ≤ n → pMany one n (l.flatMap w) = some l
  | [], n, _, _, _ => by cases n <;> rfl
  | a :: l, n, h0, h, hn => by
    have h1 := h0 a (by simp)
    rw [List.flatMap_cons] at hn ⊢
    rw [List.length_append] at hn
    have hl : 0 < (w a).length := List.length_pos_iff.mpr h1
    obtain ⟨m, rfl⟩ : ∃ m, n = m + 1 := ⟨n - 1, by omega⟩
    have ih := pMany_ok (one := one) (w := w) (l := l) (n := m) (fun b hb => h0 b (by simp [hb])) (fun b hb => h b (by simp [hb])) (by omega)
    obtain ⟨x, xs, hx⟩ : ∃ x xs, w a ++ l.flatMap w = x :: xs := by
      cases hq : w a with
      | nil => exact absurd hq h1
      | cons x xs => exact ⟨x, _, rfl⟩
    have e := h a (by simp) (l.flatMap w)
    rw [hx] at e ⊢
    rw [pMany, e]
    show (pMany one m (l.flatMap w)).map _ = _
    rw [ih]
    rfl
theorem flag_bits {c k : Bool} {g : Nat} (hg : g ≤ 2) : (2 * b2 c + 4 + 8 * g + 32 * b2 k) / 4 % 2 = 1 ∧ (((2 * b2 c + 4 + 8 * g + 32 * b2 k) / 2 % 2 == 1) = c) ∧ (2 * b2 c + 4 + 8 * g + 32 * b2 k) / 8 % 4 = g ∧ (((2 * b2 c + 4 + 8 * g + 32 * b2 k) / 32 % 2 == 1) = k) := by
  have : g = 0 ∨ g = 1 ∨ g = 2 := by omega
  rcases this with e | e | e <;> subst e <;> cases c <;> cases k <;> decide
theorem say_bits {a k : Bool} {g : Nat} (hg : g ≤ 2) : (8 * b2 a + 2 * g + b2 k) / 2 % 4 = g ∧ (((8 * b2 a + 2 * g + b2 k) % 2 == 1) = k) ∧ (((8 * b2 a + 2 * g + b2 k) / 8 == 1) = a) := by
  have : g = 0 ∨ g = 1 ∨ g = 2 := by omega
  rcases this with e | e | e <;> subst e <;> cases a <;> cases k <;> decide
theorem read_rest {p : Pz} (h : p.Ok) : pRest p.kind p.flags p.rest = some (p, []) := by
  cases p with
  | con hh c w =>
    obtain ⟨h1, h2⟩ := h
    have a := hearer_sg h1
    show pCon _ = _
    unfold pCon
    cases w with
    | none =>
      have e : (Pz.con hh c none).rest = txtB hh ++ [2 * b2 c] := rfl
      rw [e, pCnt_ok a.1]
      show (if 2 * b2 c / 4 % 2 = 0 then some (Pz.con hh (2 * b2 c / 2 % 2 == 1) none, ([] : List Nat)) else _) = _
      cases c <;> rfl
    | some t =>
      obtain ⟨q1, q2, q3⟩ := h2 t rfl
      have b := name_sg q1
      have d := body_sg q2
      obtain ⟨f1, f2, f3, f4⟩ := flag_bits (c := c) (k := t.k) q3
      have e : (Pz.con hh c (some t)).rest = txtB hh ++ (flagT c t :: (txtB t.n ++ txtB t.b)) := rfl
      rw [e, pCnt_ok a.1]
      show (if flagT c t / 4 % 2 = 0 then _ else (pCnt (txtB t.n ++ txtB t.b)).bind _) = _
      unfold flagT
      rw [if_neg (by omega), pCnt_ok b.1]
      have e2 := pCnt_ok (r := []) d.1
      rw [List.append_nil] at e2
      show (pCnt (txtB t.b)).bind _ = _
      rw [e2]
      show some (Pz.con hh ((2 * b2 c + 4 + 8 * t.g + 32 * b2 t.k) / 2 % 2 == 1) (some ⟨t.n, t.b, (2 * b2 c + 4 + 8 * t.g + 32 * b2 t.k) / 8 % 4, (2 * b2 c + 4 + 8 * t.g + 32 * b2 t.k) / 32 % 2 == 1⟩), ([] : List Nat)) = _
      rw [f2, f3, f4]
  | gre b =>
    show some (Pz.gre (b2 b == 1), ([] : List Nat)) = _
    rw [b2_mod]
  | say t ag i =>
    obtain ⟨⟨q1, q2, q3⟩, q4⟩ := h
    have b := name_sg q1
    have d := body_sg q2
    obtain ⟨f1, f2, f3⟩ := say_bits (a := ag) (k := t.k) q3
    show pSay (8 * b2 ag + 2 * t.g + b2 t.k) _ = _
    unfold pSay
    have e : (Pz.say t ag i).rest = txtB t.n ++ ((if 0 < t.g then num2 i else []) ++ t.b) := by
      show txtB t.n ++ _ ++ t.b = _
      rw [List.append_assoc]
    rw [e, pCnt_ok b.1, f1, f2, f3]
    have e2 : (if 0 < t.g then pNum ((if 0 < t.g then num2 i else []) ++ t.b) else some (0, (if 0 < t.g then num2 i else []) ++ t.b)) = some (i, t.b) := by
      by_cases h5 : 0 < t.g
      · rw [if_pos h5, if_pos h5, pNum_ok]
      · rw [if_neg h5] at q4
        rw [if_neg h5, if_neg h5, q4.1]
        rfl
    show (if 0 < t.g then pNum ((if 0 < t.g then num2 i else []) ++ t.b) else some (0, (if 0 < t.g then num2 i else []) ++ t.b)).bind _ = _
    rw [e2]
    have e3 := pText_ok (r := []) d.1
    rw [List.append_nil] at e3
    show (pText t.b.length t.b).bind _ = _
    rw [e3]
    rfl
  | one k i =>
    have e := pNum_ok (n := i) (r := [])
    rw [List.append_nil] at e
    have hk := h.1
    show pRest k 0 (num2 i) = _
    unfold pRest
    rw [if_neg (by omega), if_neg (by omega), if_neg (by omega), if_neg (by omega), if_neg (by omega), e]
    rfl
  | hea i l =>
    obtain ⟨h1, h2, h3⟩ := h
    show pSome 8 (num2 i ++ _) = _
    unfold pSome
    rw [pNum_ok]
    show (pMany pPair _ _).map _ = _
    rw [pMany_ok (fun a _ => by simp) (fun a ha r => ?_) (Nat.le_refl _)]
    · rfl
    · have b := wish_sg (h3 a ha).1
      unfold pPair
      rw [List.append_assoc, pCnt_ok b.1]
      rfl
  | hrd i l =>
    obtain ⟨h1, h2, h3⟩ := h
    show pSome 9 (num2 i ++ l) = _
    unfold pSome
    rw [pNum_ok]
    show (pMany pByte l.length l).map _ = _
    have e : l.flatMap (fun n => [n]) = l := List.flatMap_singleton' l
    have := pMany_ok (one := pByte) (w := fun n => [n]) (l := l) (n := l.length) (fun a _ => by simp) (fun a ha r => rfl) (by rw [e]; omega)
    rw [e] at this
    rw [this]
    rfl
  | drp i l =>
    obtain ⟨h1, h2, h3⟩ := h
    show pSome 10 (num2 i ++ l.flatMap txtB) = _
    unfold pSome
    rw [pNum_ok]
    show (pMany pCnt _ _).map _ = _
    rw [pMany_ok (fun a _ => by simp [txtB, num2]) (fun a ha r => pCnt_ok (wish_sg (h3 a ha)).1) (Nat.le_refl _)]
    rfl
  | nul k =>
    have hk : k = 12 ∨ k = 13 ∨ k = 14 := h
    show pRest k 0 [] = _
    unfold pRest
    rw [if_neg (by omega), if_neg (by omega), if_neg (by omega), if_neg (by omega), if_pos (by omega)]
theorem flags_lt {p : Pz} (h : p.Ok) : p.flags < 16 := by
  cases p with
  | say t ag i =>
    have := h.1.2.2
    have := b2_le ag
    have := b2_le t.k
    show 8 * b2 ag + 2 * t.g + b2 t.k < 16
    omega
  | _ => exact Nat.zero_lt_succ _
theorem head_wr {p : Pz} (h : p.Ok) : pHead p.wr = some (some (16 * p.kind + p.flags, p.rest.length, 1 + (lenB p.rest.length).length)) := by
  have hk := kind_ok h
  have hf := flags_lt h
  have hl := rest_len h
  unfold kOk at hk
  have w : p.wr = (16 * p.kind + p.flags) :: (lenB p.rest.length ++ p.rest) := rfl
  unfold pHead
  have c1 : (!p.wr.isEmpty && !(decide (16 ≤ p.wr.getD 0 0) && decide (p.wr.getD 0 0 < 240))) = false := by
    rw [w]
    simp only [List.isEmpty_cons, Bool.not_false, Bool.true_and, List.getD_cons_zero, Bool.not_eq_false', Bool.and_eq_true, decide_eq_true_eq]
    omega
  rw [c1, if_neg (by decide)]
  by_cases hm : p.rest.length < 128
  · have lb : lenB p.rest.length = [p.rest.length] := if_pos hm
    have w2 : p.wr = (16 * p.kind + p.flags) :: p.rest.length :: p.rest := by rw [w, lb]; rfl
    have g1 : p.wr.getD 1 0 = p.rest.length := by rw [w2]; rfl
    have g0 : p.wr.getD 0 0 = 16 * p.kind + p.flags := by rw [w2]; rfl
    have gm : manyOf p.wr = p.rest.length := by unfold manyOf; rw [g1, if_pos hm]
    have gl : ¬ p.wr.length < 2 := by rw [w2]; simp
    have z1 : decide (128 ≤ p.rest.length) = false := by simpa using hm
    have z2 : decide (2000 < p.rest.length) = false := by simp; omega
    rw [g1, g0, gm, decide_eq_false gl, z1, z2, lb]
    simp only [Bool.false_and, Bool.or_false, Bool.false_eq_true, if_false, if_pos hm, List.length_cons, List.length_nil]
  · have lb : lenB p.rest.length = [p.rest.length % 128 + 128, p.rest.length / 128] := if_neg hm
    have w2 : p.wr = (16 * p.kind + p.flags) :: (p.rest.length % 128 + 128) :: (p.rest.length / 128) :: p.rest := by rw [w, lb]; rfl
    have g1 : p.wr.getD 1 0 = p.rest.length % 128 + 128 := by rw [w2]; rfl
    have g2 : p.wr.getD 2 0 = p.rest.length / 128 := by rw [w2]; rfl
    have g0 : p.wr.getD 0 0 = 16 * p.kind + p.flags := by rw [w2]; rfl
    have gm : manyOf p.wr = p.rest.length := by
      unfold manyOf
      rw [g1, g2, if_neg (by omega)]
      omega
    have gl : ¬ p.wr.length < 2 := by rw [w2]; simp
    have gl3 : ¬ p.wr.length < 3 := by rw [w2]; simp
    have z2 : decide (2000 < p.rest.length) = false := by simp; omega
    have z3 : (decide (1 ≤ p.rest.length / 128) && decide (p.rest.length / 128 < 128)) = true := by simp; omega
    rw [g1, g2, g0, gm, decide_eq_false gl, decide_eq_false gl3, z2, z3, lb]
    simp only [Bool.and_false, Bool.or_false, Bool.not_true, Bool.false_eq_true, if_false, List.length_cons, List.length_nil]
    rw [if_neg (by omega)]
theorem wr_len (p : Pz) : p.wr.length = p.rest.length + (1 + (lenB p.rest.length).length) := by
  show ((16 * p.kind + p.flags) :: (lenB p.rest.length ++ p.rest)).length = _
  rw [List.length_cons, List.length_append]
  omega
/-! a whole packet is read -/
section
variable {R : List SP} {s : Sto}
theorem dNe_bys {a : List Nat} {s : Sto} : dEq (.lst (bys a)) (.lst (bys a)) s = .ok (.bl true) s ∧ dNe (.lst (bys a)) (.lst (bys a)) s = .ok (.bl false) s :=
  dNe_lst (n := 0) (fun d hd => by obtain ⟨n, _, rfl⟩ := List.mem_map.mp hd; rfl) (by decide)
theorem kind_at {k : Nat} (h : kOk k) : (kStr.map Dt.str)[k]? = some (.str (Str.ofString (kw k))) := by
  have : k = 1 ∨ k = 2 ∨ k = 3 ∨ k = 4 ∨ k = 5 ∨ k = 6 ∨ k = 7 ∨ k = 8 ∨ k = 9 ∨ k = 10 ∨ k = 11 ∨ k = 12 ∨ k = 13 ∨ k = 14 := by unfold kOk at h; omega
  rcases this with e | e | e | e | e | e | e | e | e | e | e | e | e | e <;> subst e <;> rfl
theorem mulR {k n : Int} {s : Sto} (h1 : -1000000 < k) (h2 : k < 1000000) : dMul (.int n) (.int k) s = .ok (.int (n * k)) s := by
  simp only [iOp_int, mokR h1 h2, if_true]
theorem call3_ok {f : Fn} {fa fb fc : Ex} {env : En} {s s1 s2 s3 : Sto} {x y z : Dt} (h1 : fa env s = .ok x s1) (h2 : fb env s1 = .ok y s2) (h3 : fc env s2 = .ok z s3) : eCall f [fa, fb, fc] env s = f [x, y, z] s3 := by
  rw [ev_call]
  unfold bnd
  rw [evs_cons]
  unfold bnd
  rw [h1]
  dsimp only
  rw [evs_cons]
  unfold bnd
  rw [h2]
  dsimp only
  rw [evs_cons]
  unfold bnd
  rw [h3]
  rfl
theorem ws_chkN {f : Sx} {ds : List Dt} {n : Nat} {s s' : Sto} (h : WS f ⟨fun _ z => z = s', fun _ _ => False, fun _ _ => False, fun _ _ => False, fun _ _ _ => False⟩ (ds.map some ++ List.replicate (n - ds.length) none) s) : fnOf n f ds s = .ok .non s' := by
  have : WO (fnOf n f ds s) (fun x z => x = .non ∧ z = s') noX := wf_fn (ws_mono h (fun _ _ k => ⟨rfl, k⟩) (fun _ _ k => k.elim) (fun _ _ k => k) (fun _ _ k => k) fun _ _ _ k => k.elim)
  obtain ⟨_, _, e, rfl, rfl⟩ := wo_iff this
  exact e
theorem make_br {l : List Nat} {env : En} {s : Sto} (hv : (eVar 0) env s = .ok (.lst (bys l)) s) : (eMake 0 m_Bytes_init [eVar 0]) env s = .ok (.obj s.length) (s ++ [Mo.ins 0 [.lst (bys l), .int 0]]) := by
  have g1 : (s ++ [Mo.ins 0 []])[s.length]? = some (Mo.ins 0 []) := by simp
  have g2 : ((s ++ [Mo.ins 0 []]).set s.length (Mo.ins 0 [.lst (bys l)]))[s.length]? = some (Mo.ins 0 [.lst (bys l)]) := by simp
  have g3 : ((s ++ [Mo.ins 0 []]).set s.length (Mo.ins 0 [.lst (bys l)])).set s.length (Mo.ins 0 [.lst (bys l), .int 0]) = s ++ [Mo.ins 0 [.lst (bys l), .int 0]] := by simp
  have f1 : m_Bytes_init [.obj s.length, .lst (bys l)] (s ++ [Mo.ins 0 []]) = .ok .non (s ++ [Mo.ins 0 [.lst (bys l), .int 0]]) := by
    unfold m_Bytes_init
    refine ws_chkN ?_
    unfold b_Bytes_init
    refine ws_step (st_setF (fv := eVar 1) (fo := eVar 0) rfl rfl g1 (by simp)) ?_
    refine ws_nx (st_setF (fv := eC (.int 0)) (fo := eVar 0) rfl rfl g2 (by simp)) ?_
    exact g3
  rw [ev_make]
  unfold bnd
  rw [evs_cons]
  unfold bnd
  rw [hv]
  dsimp only
  rw [evs_nil]
  dsimp only
  rw [f1]
theorem ev_read {p : Pz} (h : p.Ok) (o : Own R s) : ∃ s', m_read_packet [.lst (bys p.wr)] s = .ok p.d s' ∧ Own R s' := by
  have hk := kind_ok h
  have hf := flags_lt h
  have hl := rest_len h
  have hh := ev_head p.wr s
  rw [head_wr h] at hh
  suffices k : WO (m_read_packet [.lst (bys p.wr)] s) (fun d z => d = p.d ∧ Own R z) noX by
    obtain ⟨d, z, e, rfl, o'⟩ := wo_iff k
    exact ⟨z, e, o'⟩
  unfold m_read_packet
  refine wf_fn ?_
  unfold b_read_packet
  show WS _ _ [some (.lst (bys p.wr)), none, none, none, none] s
  refine ws_step (f := u_read_packet_1) (e := [some (.lst (bys p.wr)), some (hD (some (16 * p.kind + p.flags, p.rest.length, 1 + (lenB p.rest.length).length))), none, none, none]) (s1 := s) (st_asg ((call1_ok rfl).trans hh)) ?_
  have v1 : ∀ {x2 x3 x4 : Option Dt} {s : Sto} (k : Nat) (b : Nat), [nD (16 * p.kind + p.flags), nD p.rest.length, nD (1 + (lenB p.rest.length).length)][k]? = some (nD b) → (eOp dIx (eVar 1) (eC (.int (k : Nat)))) [some (.lst (bys p.wr)), some (hD (some (16 * p.kind + p.flags, p.rest.length, 1 + (lenB p.rest.length).length))), x2, x3, x4] s = .ok (nD b) s := fun {x2 x3 x4 s} k b hb => by
    refine (op_ok (fa := eVar 1) (fb := eC (.int (k : Nat))) rfl rfl).trans ?_
    show dIx (.tup _) _ _ = _
    rw [dIx_tup, atI_ofNat, hb]
    rfl
  refine ws_step (f := u_read_packet_2) (e := [some (.lst (bys p.wr)), some (hD (some (16 * p.kind + p.flags, p.rest.length, 1 + (lenB p.rest.length).length))), none, none, none]) (s1 := s) (st_ifF ?_) ?_
  · refine (tOr_ok (a := false) (b := false) (notN_t rfl rfl) (fun _ => ?_))
    have a1 := lst_len (l := p.wr) (j := 0) (env := [some (.lst (bys p.wr)), some (hD (some (16 * p.kind + p.flags, p.rest.length, 1 + (lenB p.rest.length).length))), none, none, none]) (s := s) rfl
    have a2 := (op_ok (op := dAdd nwF) (v1 (x2 := none) (x3 := none) (x4 := none) (s := s) 1 _ rfl) (v1 2 _ rfl)).trans dAdd_int
    refine tBl_ok ((op_ok (op := dNe) a1 a2).trans ?_)
    rw [dNe_int, wr_len]
    have : ((p.rest.length + (1 + (lenB p.rest.length).length) : Nat) : Int) = (p.rest.length : Int) + ((1 + (lenB p.rest.length).length : Nat) : Int) := by omega
    rw [this]
    simp
  refine ws_seq (f := u_read_packet_3) ?_
  unfold u_read_packet_3
  refine ws_set ?_
  have e3 : (eMake 0 m_Bytes_init [eVar 0]) [some (.lst (bys p.wr)), some (hD (some (16 * p.kind + p.flags, p.rest.length, 1 + (lenB p.rest.length).length))), none, none, none] s = .ok (.obj s.length) (s ++ [Mo.ins 0 [.lst (bys p.wr), .int 0]]) := make_br rfl
  refine we_ok e3 ?_
  generalize hj : s.length = j
  have o1 : Own (At j (.ins 0 [.lst (bys p.wr), .int 0]) :: R) (s ++ [Mo.ins 0 [.lst (bys p.wr), .int 0]]) := by
    subst hj
    exact o.new _
  generalize s ++ [Mo.ins 0 [.lst (bys p.wr), .int 0]] = s1 at o1 ⊢
  dsimp only
  have f4 := st_setF (c := 0) (k := 1) (fo := eVar 2) (v1 (x2 := some (.obj j)) (x3 := none) (x4 := none) (s := s1) 2 _ rfl) rfl o1.get (by simp)
  have o2 := o1.set (.ins 0 (putI 1 (nD (1 + (lenB p.rest.length).length)) [.lst (bys p.wr), .int 0]))
  generalize s1.set j (.ins 0 (putI 1 (nD (1 + (lenB p.rest.length).length)) [.lst (bys p.wr), .int 0])) = s2 at f4 o2
  refine ws_step (f := u_read_packet_4) f4 ?_
  have o3 : Own (BrR j p.wr p.rest :: R) s2 := own_br.mpr ⟨(16 * p.kind + p.flags) :: lenB p.rest.length, rfl, by
    have : (((16 * p.kind + p.flags) :: lenB p.rest.length).length : Nat) = 1 + (lenB p.rest.length).length := by rw [List.length_cons]; omega
    rw [this]
    exact o2⟩
  have hr := ev_rrest (k := p.kind) (fl := p.flags) hk (by omega) (rest_lo h) o3
  rw [read_rest h] at hr
  obtain ⟨s3, q3, o4⟩ := hr
  obtain ⟨s4, q4, o5⟩ := ev_written h (R := R) ((Own.pm o4 (by repeat first | exact Pm.rfl | (apply Pm.cons; repeat first | exact Tk.hd | apply Tk.tl) | apply Pm.skip)))
  have a0 := v1 (x2 := some (.obj j)) (x3 := none) (x4 := none) (s := s2) 0 _ rfl
  have b1 := (op_ok (op := dFdv) (fb := eC (.int 16)) a0 rfl).trans (fdvL (by decide) (by decide))
  have e16 : ((16 * p.kind + p.flags : Nat) : Int) / 16 = ((p.kind : Nat) : Int) := by omega
  rw [e16] at b1
  have b2' : (eOp dIx (eC (.lst ((c_KINDS ++ c_MORE_KINDS).map Dt.str))) (eOp dFdv (eOp dIx (eVar 1) (eC (.int 0))) (eC (.int 16)))) [some (.lst (bys p.wr)), some (hD (some (16 * p.kind + p.flags, p.rest.length, 1 + (lenB p.rest.length).length))), some (.obj j), none, none] s2 = .ok (.str (Str.ofString (kw p.kind))) s2 := by
    refine (op_ok (fa := eC (.lst ((c_KINDS ++ c_MORE_KINDS).map Dt.str))) rfl b1).trans ?_
    rw [dIx_lst, atI_ofNat]
    have := kind_at hk
    unfold kStr at this
    rw [this]
    rfl
  have c1 := (op_ok (op := dMul) (fb := eC (.int 16)) b1 rfl).trans (mulR (by decide) (by decide))
  have c2 := op_ok (op := dSub) a0 c1
  have c3 : dSub (nD (16 * p.kind + p.flags)) (.int ((p.kind : Int) * 16)) s2 = .ok (nD p.flags) s2 := by
    show Out.ok (Dt.int (((16 * p.kind + p.flags : Nat) : Int) - (p.kind : Int) * 16)) s2 = _
    have : ((16 * p.kind + p.flags : Nat) : Int) - (p.kind : Int) * 16 = ((p.flags : Nat) : Int) := by omega
    rw [this]
  have d3 : (eCall m_read_rest [eOp dIx (eC (.lst ((c_KINDS ++ c_MORE_KINDS).map Dt.str))) (eOp dFdv (eOp dIx (eVar 1) (eC (.int 0))) (eC (.int 16))), eOp dSub (eOp dIx (eVar 1) (eC (.int 0))) (eOp dMul (eOp dFdv (eOp dIx (eVar 1) (eC (.int 0))) (eC (.int 16))) (eC (.int 16))), eVar 2]) [some (.lst (bys p.wr)), some (hD (some (16 * p.kind + p.flags, p.rest.length, 1 + (lenB p.rest.length).length))), some (.obj j), none, none] s2 = .ok p.d s3 := (call3_ok b2' (c2.trans c3) rfl).trans q3
  refine ws_step (f := u_read_packet_5) (st_asg d3) (ws_step (f := u_read_packet_6) (e := [some (.lst (bys p.wr)), some (hD (some (16 * p.kind + p.flags, p.rest.length, 1 + (lenB p.rest.length).length))), some (.obj j), some p.d, some .non]) (s1 := s3) (st_asg rfl) ?_)
  refine ws_step (f := u_read_packet_7) (e := [some (.lst (bys p.wr)), some (hD (some (16 * p.kind + p.flags, p.rest.length, 1 + (lenB p.rest.length).length))), some (.obj j), some p.d, some (.lst (bys p.wr))]) (s1 := s4) ?_ ?_
  · unfold u_read_packet_7 sTryOk
    rw [st_asg ((call1_ok (fa := eVar 3) rfl).trans q4)]
    rfl
  refine ws_step (f := u_read_packet_8) (st_ifF (s1 := s4) (tBl_ok ((op_ok (fa := eVar 4) (fb := eVar 0) rfl rfl).trans dNe_bys.2))) ?_
  exact ws_rt (f := u_read_packet_9) (st_ret (d := p.d) rfl) ⟨rfl, o5⟩
end
end Tx
namespace Tx
open PySem L2 Pd
theorem t_b : Str.ofString "b" = mkS [98] := by decide +kernel
theorem t_ds : Str.ofString "$s" = mkS [36, 115] := by decide +kernel
/-! ### levels that the law draws -/
def allSigns : List Nat := [32, 33, 35, 36, 38, 39, 40, 41, 42, 43, 44, 45, 46, 47, 48, 49, 50, 51, 52, 53, 54, 55, 56, 57, 58, 59, 60, 61, 62, 63, 64, 65, 66, 67, 88, 89, 90, 91, 93, 94, 95, 97, 98, 99, 100, 101, 102, 103, 104, 105, 106, 107, 108, 109, 110, 111, 112, 113, 114, 115, 116, 117, 118, 119, 120, 121, 122, 123, 124, 125, 126]
theorem t_signs : Str.ofString " !#$&'()*+,-./0123456789:;<=>?@ABCXYZ[]^_abcdefghijklmnopqrstuvwxyz{|}~" = mkS allSigns := by decide +kernel
theorem t_x : Str.ofString "x" = mkS [120] := by decide +kernel
theorem t_abx : Str.ofString "ab" = mkS [97, 98] := by decide +kernel
theorem allSigns_ok : ∀ c ∈ allSigns, c < 127 ∧ (sgn c = true ∨ c ∈ [43, 35, 47]) := by decide +kernel
theorem ev_pickS (ns : List Int) {t N : Nat} {l : List Nat} {R : List SP} {s : Sto} (o : Own (Tw t N :: R) s) (hN : N < 900000) (hl : l ≠ []) : ∃ c ∈ l, ∃ s', m_law_pick [sc ns, .obj t, .str (mkS l)] s = .ok (.str (mkS [c])) s' ∧ Own (Tw t (N + 1) :: R) s' := by
  have hl' : (0 : Int) < l.length := by have := List.length_pos_iff.mpr hl; omega
  obtain ⟨v, hv, s', h1, o'⟩ := ev_draw ns o hN hl'
  have hv2 : v < l.length := by omega
  have h5 : atI l (v : Int) = some l[v] := by rw [atI_ofNat, List.getElem?_eq_getElem hv2]
  refine ⟨l[v], List.getElem_mem hv2, s', ?_, o'⟩
  unfold m_law_pick b_law_pick
  simp only [evR, Nat.reduceAdd, Nat.reduceSub, Int.reduceBEq, Int.reduceEq, Int.reduceLT, Int.reduceLE, Int.reduceNeg, Int.reduceAdd, Int.reduceSub, Int.reduceMul, Int.reduceToNat, Nat.reduceLT, Nat.reduceLeDiff, reduceIte, Int.reduceNe, Int.reduceBNe, String.reduceBEq, mkS_len, h1, h5]
theorem ev_signs (ns : List Int) {t N many : Nat} {R : List SP} {s : Sto} (hN : N + many < 900000) (hm : many ≤ 1000) (o : Own (Tw t N :: R) s) : ∃ (l : List Nat) (s' : Sto), l.length = many ∧ l.all sgn = true ∧ m_law_signs [sc ns, .obj t, .int (many : Int), .bl false] s = .ok (.str (mkS l)) s' ∧ Own (Tw t (N + many) :: R) s' := by
  obtain ⟨e, s', h1, h2⟩ := for_range_inv (tg := gN 6) (body := l_law_signs_1) (fun k env s' => ∃ (l : List Nat) (a b : Option Dt), l.length = k ∧ l.all sgn = true ∧ env = [some (sc ns), some (.obj t), some (.int (many : Int)), some (.bl false), some (.str (mkS allSigns)), some (.str (mkS l)), a, b] ∧ Own (Tw t (N + k) :: R) s') many (env := [some (sc ns), some (.obj t), some (.int (many : Int)), some (.bl false), some (.str (mkS allSigns)), some (.str (mkS [])), none, none]) (s := s)
    ⟨[], none, none, rfl, rfl, rfl, o⟩ (fun k env s' hk hi => by
      obtain ⟨l, a, b, e1, e3, e4, e5⟩ := hi
      subst e4
      obtain ⟨c, hc, s2, e6, o2⟩ := ev_pickS ns (l := allSigns) e5 (by omega) (by decide)
      obtain ⟨hc1, hc2⟩ := allSigns_ok c hc
      by_cases hb : c ∈ [43, 35, 47]
      · have bd : l_law_signs_1 [some (sc ns), some (.obj t), some (.int (many : Int)), some (.bl false), some (.str (mkS allSigns)), some (.str (mkS l)), some (.int (k : Int)), b] s' = .fl (.nx [some (sc ns), some (.obj t), some (.int (many : Int)), some (.bl false), some (.str (mkS allSigns)), some (.str (mkS (l ++ [120]))), some (.int (k : Int)), some (.str (mkS [c]))]) s2 := by
          unfold l_law_signs_1
          simp only [evR, Nat.reduceAdd, Nat.reduceSub, Int.reduceBEq, Int.reduceEq, Int.reduceLT, Int.reduceLE, Int.reduceNeg, Int.reduceAdd, Int.reduceSub, Int.reduceMul, Int.reduceToNat, Nat.reduceLT, Nat.reduceLeDiff, reduceIte, Int.reduceNe, Int.reduceBNe, String.reduceBEq, e6, t_bad, t_x, dIn_sign, hb, str_obj]
          rw [if_pos (by omega)]
        refine ⟨_, rfl, _, s2, .inl bd, l ++ [120], _, _, by simp [e1], ?_, rfl, o2⟩
        rw [List.all_append, e3]
        rfl
      · have bd : l_law_signs_1 [some (sc ns), some (.obj t), some (.int (many : Int)), some (.bl false), some (.str (mkS allSigns)), some (.str (mkS l)), some (.int (k : Int)), b] s' = .fl (.nx [some (sc ns), some (.obj t), some (.int (many : Int)), some (.bl false), some (.str (mkS allSigns)), some (.str (mkS (l ++ [c]))), some (.int (k : Int)), some (.str (mkS [c]))]) s2 := by
          unfold l_law_signs_1
          simp only [evR, Nat.reduceAdd, Nat.reduceSub, Int.reduceBEq, Int.reduceEq, Int.reduceLT, Int.reduceLE, Int.reduceNeg, Int.reduceAdd, Int.reduceSub, Int.reduceMul, Int.reduceToNat, Nat.reduceLT, Nat.reduceLeDiff, reduceIte, Int.reduceNe, Int.reduceBNe, String.reduceBEq, e6, t_bad, t_x, dIn_sign, hb, str_obj]
          rw [if_pos (by omega)]
        refine ⟨_, rfl, _, s2, .inl bd, l ++ [c], _, _, by simp [e1], ?_, rfl, o2⟩
        rw [List.all_append, e3]
        have : sgn c = true := hc2.resolve_right hb
        simp [this])
  obtain ⟨l, a, b, e1, e3, e4, e5⟩ := h2
  subst e4
  refine ⟨l, s', e1, e3, ?_, e5⟩
  have hr : (many : Int) ≤ 16777216 ∧ -(2 ^ 62) ≤ (many : Int) := by omega
  unfold m_law_signs b_law_signs
  simp only [evR, Nat.reduceAdd, Nat.reduceSub, Int.reduceBEq, Int.reduceEq, Int.reduceLT, Int.reduceLE, Int.reduceNeg, Int.reduceAdd, Int.reduceSub, Int.reduceMul, Int.reduceToNat, Nat.reduceLT, Nat.reduceLeDiff, reduceIte, Int.reduceNe, Int.reduceBNe, String.reduceBEq, t_signs, t_nil, ev_for, ev_iRange, hr, Int.toNat_natCast, h1]
theorem ev_level (ns : List Int) {t N : Nat} {R : List SP} {s : Sto} (hN : N + 20 < 900000) (o : Own (Tw t N :: R) s) : ∃ (l : List Nat) (s' : Sto), gl l = true ∧ m_law_level [sc ns, .obj t] s = .ok (.str (mkS l)) s' ∧ Own (Tw t (N + 14) :: R) s' := by
  obtain ⟨v, hv, s1, h1, o1⟩ := ev_draw ns (many := 8) o (by omega) (by decide)
  by_cases h5 : (v : Int) < 5
  · obtain ⟨d, hd, s2, h2, o2⟩ := ev_pick ns (l := [.str (mkS [97]), .str (mkS [98]), .str (mkS []), .str (mkS [36, 115]), .str (mkS [97, 98])]) o1 (by omega) (by simp)
    obtain ⟨l, rfl, hl⟩ : ∃ l, d = .str (mkS l) ∧ gl l = true := by
      simp only [List.mem_cons, List.not_mem_nil, or_false] at hd
      rcases hd with h | h | h | h | h <;> exact ⟨_, h, by decide⟩
    refine ⟨l, s2, hl, ?_, o2.more (by omega)⟩
    unfold m_law_level b_law_level
    simp only [evR, Nat.reduceAdd, Nat.reduceSub, Int.reduceBEq, Int.reduceEq, Int.reduceLT, Int.reduceLE, Int.reduceNeg, Int.reduceAdd, Int.reduceSub, Int.reduceMul, Int.reduceToNat, Nat.reduceLT, Nat.reduceLeDiff, reduceIte, Int.reduceNe, Int.reduceBNe, String.reduceBEq, h1, dLt, h5, t_a, t_b, t_nil, t_ds, t_abx, h2]
  · obtain ⟨d, hd, s2, h2, o2⟩ := ev_pick ns (l := [.int 1, .int 2, .int 5, .int 12]) o1 (by omega) (by simp)
    obtain ⟨m, rfl, hm⟩ : ∃ m : Nat, d = .int (m : Int) ∧ m ≤ 12 := by
      simp only [List.mem_cons, List.not_mem_nil, or_false] at hd
      rcases hd with h | h | h | h
      · exact ⟨1, h, by decide⟩
      · exact ⟨2, h, by decide⟩
      · exact ⟨5, h, by decide⟩
      · exact ⟨12, h, by decide⟩
    obtain ⟨l, s3, e1, e3, e4, o3⟩ := ev_signs ns (many := m) (by omega) (by omega) o2
    refine ⟨l, s3, ?_, ?_, o3.more (by omega)⟩
    · unfold gl
      rw [e3, Bool.and_true]
      exact decide_eq_true (by omega)
    · unfold m_law_level b_law_level
      simp only [evR, Nat.reduceAdd, Nat.reduceSub, Int.reduceBEq, Int.reduceEq, Int.reduceLT, Int.reduceLE, Int.reduceNeg, Int.reduceAdd, Int.reduceSub, Int.reduceMul, Int.reduceToNat, Nat.reduceLT, Nat.reduceLeDiff, reduceIte, Int.reduceNe, Int.reduceBNe, String.reduceBEq, h1, dLt, h5, h2, e4]
/-! ### lists of texts, compared -/
theorem toPys_lvs : ∀ ps : List (List Nat), toPys (lvs ps) = some (ps.map fun p => .str (mkS p))
  | [] => rfl
  | p :: ps => by
    have ih := toPys_lvs ps
    simp only [lvs] at ih
    simp only [lvs, List.map_cons, toPys, toPy, ih]
theorem depth_lvs : ∀ ps : List (List Nat), PyData.depthAll (ps.map fun p => .str (mkS p)) = 0
  | [] => rfl
  | p :: ps => by simp only [List.map_cons, PyData.depthAll, PyData.depth, depth_lvs ps]; rfl
theorem eqvAll_lvs : ∀ a b : List (List Nat), PyData.eqvAll (a.map fun p => .str (mkS p)) (b.map fun p => .str (mkS p)) = (a == b)
  | [], [] => rfl
  | [], q :: b => rfl
  | p :: a, [] => rfl
  | p :: a, q :: b => by
    simp only [List.map_cons, PyData.eqvAll, PyData.eqv, eqvAll_lvs a b, mkS_beq]
    rfl
theorem dEqB_lvs (a b : List (List Nat)) (s : Sto) : dEqB s (.lst (lvs a)) (.lst (lvs b)) = some (a == b) := by
  simp only [dEqB, toPyS, toPy, toPys_lvs, Option.map_some, PyData.depth, depth_lvs, PyData.eqv, eqvAll_lvs]
  rfl
theorem dNe_lvs (a b : List (List Nat)) (s : Sto) : dNe (.lst (lvs a)) (.lst (lvs b)) s = .ok (.bl (!(a == b))) s := by simp only [dNe, dEqB_lvs, Option.map_some, ofO_some]
theorem gl_free {l : List Nat} (h : gl l = true) : 47 ∉ l := fun hm => by
  unfold gl at h
  simp only [Bool.and_eq_true] at h
  have := List.all_eq_true.mp h.2 47 hm
  exact absurd this (by decide)
theorem joinL_nil {f : List (List Nat)} (h : TL.joinL [47] f = []) : f = [] ∨ f = [[]] := by
  match f, h with
  | [], _ => exact .inl rfl
  | [p], h => right; rw [show p = [] from h]
  | p :: q :: r, h => simp [TL.joinL] at h
theorem name_join {f : List (List Nat)} (h0 : f ≠ []) (h1 : f ≠ [[]]) (hg : ∀ x ∈ f, gl x = true) (h8 : f.length ≤ 8) : isName (TL.joinL [47] f) = true ∧ splC 47 (TL.joinL [47] f) = f := by
  have e := splC_join 47 h0 fun p hp => gl_free (hg p hp)
  refine ⟨?_, e⟩
  unfold isName
  rw [e]
  have : (TL.joinL [47] f == []) = false := by
    rw [beq_eq_false_iff_ne]
    intro h
    rcases joinL_nil h with h | h
    · exact h0 h
    · exact h1 h
  rw [this, decide_eq_true h8]
  exact List.all_eq_true.mpr hg
/-! ### what the law draws -/
theorem allSigns_b : ∀ c ∈ allSigns, bsgn c = true := by decide +kernel
theorem ev_signsT (ns : List Int) {t N many : Nat} {R : List SP} {s : Sto} (hN : N + many < 900000) (hm : many ≤ 1000) (o : Own (Tw t N :: R) s) : ∃ (l : List Nat) (s' : Sto), l.length = many ∧ l.all bsgn = true ∧ m_law_signs [sc ns, .obj t, .int (many : Int), .bl true] s = .ok (.str (mkS l)) s' ∧ Own (Tw t (N + many) :: R) s' := by
  obtain ⟨e, s', h1, h2⟩ := for_range_inv (tg := gN 6) (body := l_law_signs_1) (fun k env s' => ∃ (l : List Nat) (a b : Option Dt), l.length = k ∧ l.all bsgn = true ∧ env = [some (sc ns), some (.obj t), some (.int (many : Int)), some (.bl true), some (.str (mkS allSigns)), some (.str (mkS l)), a, b] ∧ Own (Tw t (N + k) :: R) s') many (env := [some (sc ns), some (.obj t), some (.int (many : Int)), some (.bl true), some (.str (mkS allSigns)), some (.str (mkS [])), none, none]) (s := s)
    ⟨[], none, none, rfl, rfl, rfl, o⟩ (fun k env s' hk hi => by
      obtain ⟨l, a, b, e1, e3, e4, e5⟩ := hi
      subst e4
      obtain ⟨c, hc, s2, e6, o2⟩ := ev_pickS ns (l := allSigns) e5 (by omega) (by decide)
      have hcb := allSigns_b c hc
      have bd : l_law_signs_1 [some (sc ns), some (.obj t), some (.int (many : Int)), some (.bl true), some (.str (mkS allSigns)), some (.str (mkS l)), some (.int (k : Int)), b] s' = .fl (.nx [some (sc ns), some (.obj t), some (.int (many : Int)), some (.bl true), some (.str (mkS allSigns)), some (.str (mkS (l ++ [c]))), some (.int (k : Int)), some (.str (mkS [c]))]) s2 := by
        unfold l_law_signs_1
        by_cases hb : c ∈ [43, 35, 47]
        · simp only [evR, Nat.reduceAdd, Nat.reduceSub, Int.reduceBEq, Int.reduceEq, Int.reduceLT, Int.reduceLE, Int.reduceNeg, Int.reduceAdd, Int.reduceSub, Int.reduceMul, Int.reduceToNat, Nat.reduceLT, Nat.reduceLeDiff, reduceIte, Int.reduceNe, Int.reduceBNe, String.reduceBEq, e6, t_bad, t_x, dIn_sign, hb, str_obj]
          rw [if_pos (by omega)]
        · simp only [evR, Nat.reduceAdd, Nat.reduceSub, Int.reduceBEq, Int.reduceEq, Int.reduceLT, Int.reduceLE, Int.reduceNeg, Int.reduceAdd, Int.reduceSub, Int.reduceMul, Int.reduceToNat, Nat.reduceLT, Nat.reduceLeDiff, reduceIte, Int.reduceNe, Int.reduceBNe, String.reduceBEq, e6, t_bad, t_x, dIn_sign, hb, str_obj]
          rw [if_pos (by omega)]
      refine ⟨_, rfl, _, s2, .inl bd, l ++ [c], _, _, by simp [e1], ?_, rfl, o2⟩
      rw [List.all_append, e3]
      simp [hcb])
  obtain ⟨l, a, b, e1, e3, e4, e5⟩ := h2
  subst e4
  refine ⟨l, s', e1, e3, ?_, e5⟩
  have hr : (many : Int) ≤ 16777216 ∧ -(2 ^ 62) ≤ (many : Int) := by omega
  unfold m_law_signs b_law_signs
  simp only [evR, Nat.reduceAdd, Nat.reduceSub, Int.reduceBEq, Int.reduceEq, Int.reduceLT, Int.reduceLE, Int.reduceNeg, Int.reduceAdd, Int.reduceSub, Int.reduceMul, Int.reduceToNat, Nat.reduceLT, Nat.reduceLeDiff, reduceIte, Int.reduceNe, Int.reduceBNe, String.reduceBEq, t_signs, t_nil, ev_for, ev_iRange, hr, Int.toNat_natCast, h1]
theorem lvs_ofP {P : List Nat → Prop} : ∀ {ys : List Dt}, (∀ y ∈ ys, ∃ q, y = .str (mkS q) ∧ P q) → ∃ Q : List (List Nat), ys = lvs Q ∧ ∀ q ∈ Q, P q
  | [], _ => ⟨[], rfl, fun _ h => nomatch h⟩
  | y :: ys, h => by
    obtain ⟨Q, e, hQ⟩ := lvs_ofP (ys := ys) fun z hz => h z (List.mem_cons_of_mem _ hz)
    obtain ⟨q, e2, hq⟩ := h y List.mem_cons_self
    refine ⟨q :: Q, by rw [e, e2]; rfl, fun z hz => ?_⟩
    rcases List.mem_cons.mp hz with e3 | hz
    · rw [e3]; exact hq
    · exact hQ z hz
theorem draw_lvls (ns : List Int) {t N v : Nat} {a2 : Option Dt} {R : List SP} {s : Sto} (hv : v ≤ 100) (hN : N + 2000 < 900000) (o : Own (Tw t N :: R) s) :
    ∃ Q s', lcGo (gN 3) Pd.tYes (eCall m_law_level [eVar 0, eVar 1]) (fun _ => True) ((List.range v).map fun (k : Nat) => .int (k : Int)) [some (sc ns), some (.obj t), a2, none] s = .ok (lvs Q) s' ∧ Q.length = v ∧ (∀ q ∈ Q, gl q = true) ∧ Own (Tw t (N + 14 * v) :: R) s' := by
  obtain ⟨ys, s', h1, h2, h3, h4⟩ := lc_inv (tg := gN 3) (fe := eCall m_law_level [eVar 0, eVar 1]) (ok := fun _ => True) (env := [some (sc ns), some (.obj t), a2, none]) (fun k s => Own (Tw t (N + 14 * k) :: R) s) (fun y => ∃ q, y = .str (mkS q) ∧ gl q = true) v (fun _ _ _ => trivial) (l := (List.range v).map fun (k : Nat) => .int (k : Int)) (n := 0) (s := s) (by rw [List.length_map, List.length_range]; omega) o
    (fun n s d _ hn hi => by
      obtain ⟨l, s', j1, j2, j3⟩ := ev_level ns (by omega) hi
      refine ⟨_, rfl, .str (mkS l), s', ?_, ⟨l, rfl, j1⟩, ?_⟩
      · simp only [evR, Nat.reduceAdd, Nat.reduceSub, Int.reduceBEq, Int.reduceEq, Int.reduceLT, Int.reduceLE, Int.reduceNeg, Int.reduceAdd, Int.reduceSub, Int.reduceMul, Int.reduceToNat, Nat.reduceLT, Nat.reduceLeDiff, reduceIte, Int.reduceNe, Int.reduceBNe, String.reduceBEq, j2]
      · rw [show N + 14 * (n + 1) = N + 14 * n + 14 by omega]
        exact j3)
  obtain ⟨Q, e, hQ⟩ := lvs_ofP h4
  subst e
  rw [List.length_map, List.length_map, List.length_range] at h3
  rw [List.length_map, List.length_range, Nat.zero_add] at h2
  exact ⟨Q, s', h1, h3, hQ, h2⟩
theorem pick_n (ns : List Int) {t N : Nat} {l : List Nat} {R : List SP} {s : Sto} (o : Own (Tw t N :: R) s) (hN : N < 900000) (hl : l ≠ []) : ∃ x ∈ l, ∃ s', m_law_pick [sc ns, .obj t, .lst (bys l)] s = .ok (nD x) s' ∧ Own (Tw t (N + 1) :: R) s' := by
  obtain ⟨d, hd, s', h1, h2⟩ := ev_pick ns (l := bys l) o hN (by simpa using hl)
  obtain ⟨x, hx, rfl⟩ := List.mem_map.mp hd
  exact ⟨x, hx, s', h1, h2⟩
theorem gl_len12 {q : List Nat} (h : gl q = true) : q.length ≤ 12 := (gl_b h).2
theorem ev_name (ns : List Int) {t N : Nat} {R : List SP} {s : Sto} (hN : N + 3000 < 900000) (o : Own (Tw t N :: R) s) : ∃ l s', m_law_name [sc ns, .obj t] s = .ok (.str (mkS l)) s' ∧ isName l = true ∧ Own (Tw t (N + 113) :: R) s' := by
  obtain ⟨v, hv, s1, h1, o1⟩ := pick_n ns (l := [0, 1, 2, 7]) o (by omega) (by simp)
  have hv8 : v ≤ 7 := by simp at hv; omega
  obtain ⟨Q, s2, h2, hl, hQ, o2⟩ := draw_lvls ns (v := v + 1) (a2 := none) (by omega) (by omega) o1
  have e0 : (1 : Int) + (v : Int) = ((v + 1 : Nat) : Int) := by omega
  have hr : (((v + 1 : Nat) : Int) ≤ 16777216 ∧ -(2 ^ 62) ≤ ((v + 1 : Nat) : Int)) := by omega
  have dn : ∀ s, dNe (.lst (lvs Q)) (.lst [.str (mkS [])]) s = .ok (.bl (!(Q == [[]]))) s := fun s => dNe_lvs Q [[]] s
  have dj : ∀ s, dJoin (.str (mkS [47])) (.lst (lvs Q)) s = .ok (.str (mkS (TL.joinL [47] Q))) s := fun s => dJoin_lst rfl (by
    have := sum_le12 (ps := Q) fun q hq => gl_len12 (hQ q hq)
    omega)
  have h1 : m_law_pick [sc ns, .obj t, .lst [.int 0, .int 1, .int 2, .int 7]] s = .ok (nD v) s1 := h1
  cases hq : (Q == [[]]) with
  | true =>
    refine ⟨[97], s2, ?_, by decide, o2.more (by omega)⟩
    unfold m_law_name b_law_name
    simp only [evR, Nat.reduceAdd, Nat.reduceSub, Int.reduceBEq, Int.reduceEq, Int.reduceLT, Int.reduceLE, Int.reduceNeg, Int.reduceAdd, Int.reduceSub, Int.reduceMul, Int.reduceToNat, Nat.reduceLT, Nat.reduceLeDiff, reduceIte, Int.reduceNe, Int.reduceBNe, String.reduceBEq, h1, e0, hr, ev_lc, ev_iRange, Int.toNat_natCast, wipeD_nil, wipeD_cons, bndN, t_a, t_nil, h2, dn, hq]
  | false =>
    have hq' : Q ≠ [[]] := by simpa using hq
    have hne : Q ≠ [] := fun e => by rw [e] at hl; simp at hl
    obtain ⟨k1, k2⟩ := name_join hne hq' hQ (by omega)
    refine ⟨TL.joinL [47] Q, s2, ?_, k1, o2.more (by omega)⟩
    unfold m_law_name b_law_name
    simp only [evR, Nat.reduceAdd, Nat.reduceSub, Int.reduceBEq, Int.reduceEq, Int.reduceLT, Int.reduceLE, Int.reduceNeg, Int.reduceAdd, Int.reduceSub, Int.reduceMul, Int.reduceToNat, Nat.reduceLT, Nat.reduceLeDiff, reduceIte, Int.reduceNe, Int.reduceBNe, String.reduceBEq, h1, e0, hr, ev_lc, ev_iRange, Int.toNat_natCast, wipeD_nil, wipeD_cons, bndN, t_a, t_nil, t_slash, isStr_str, h2, dn, hq, dj]
theorem mem_dl {α : Type} {x : α} {l : List α} (h : x ∈ l.dropLast) : x ∈ l := List.dropLast_subset l h
theorem plain_sub {ls : List (List Nat)} {p : List Nat} (h : p ∈ plain ls) : p ∈ ls := by
  unfold plain at h
  split at h
  · exact mem_dl h
  · exact h
theorem gw_free {l : List Nat} (h : gw l = true) : 47 ∉ l := by
  unfold gw at h
  simp only [Bool.or_eq_true, beq_iff_eq] at h
  rcases h with h | h
  · subst h; decide
  · exact gl_free h
theorem wish_join {f : List (List Nat)} (h0 : f ≠ []) (h1 : f ≠ [[]]) (hg : ∀ x ∈ plain f, gw x = true) (h8 : f.length ≤ 8) : isWish (TL.joinL [47] f) = true := by
  have e := splC_join 47 h0 fun p hp => by
    rcases plain_mem hp with q | q
    · exact gw_free (hg p q)
    · subst q; decide
  unfold isWish
  rw [e]
  have : (TL.joinL [47] f == []) = false := by
    rw [beq_eq_false_iff_ne]
    intro h
    rcases joinL_nil h with h | h
    · exact h0 h
    · exact h1 h
  rw [this, decide_eq_true h8]
  exact List.all_eq_true.mpr hg
theorem put_last {s : Sto} {i : Nat} {l : List Dt} {d : Dt} (h : s[i]? = some (.lst l)) (hl : l ≠ []) : Pd.putAt (.obj i) (.int (-1)) d s = some (s.set i (.lst (l.set (l.length - 1) d))) := by
  have h0 := List.length_pos_iff.mpr hl
  have e : ixN l.length (-1) = some (l.length - 1) := by
    unfold ixN
    simp only [show ¬ ((0 : Int) ≤ -1) by decide, if_false]
    rw [if_pos (by omega)]
    congr 1
    omega
  simp only [Pd.putAt, lstAt_obj h, e, Option.map_some]
theorem ev_wish (ns : List Int) {t N : Nat} {R : List SP} {s : Sto} (hN : N + 3000 < 900000) (o : Own (Tw t N :: R) s) : ∃ w s', m_law_wish [sc ns, .obj t] s = .ok (.str (mkS w)) s' ∧ isWish w = true ∧ Own (Tw t (N + 62) :: R) s' := by
  suffices k : WO (m_law_wish [sc ns, .obj t] s) (fun d z => ∃ w, d = .str (mkS w) ∧ isWish w = true ∧ Own (Tw t (N + 62) :: R) z) noX by
    obtain ⟨d, z, e, w, rfl, h1, h2⟩ := wo_iff k
    exact ⟨w, z, e, h1, h2⟩
  obtain ⟨v, hv, s1, h1, o1⟩ := ev_draw ns (many := 4) o (by omega) (by decide)
  have e0 : (1 : Int) + (v : Int) = ((v + 1 : Nat) : Int) := by omega
  have hr : (((v + 1 : Nat) : Int) ≤ 16777216 ∧ -(2 ^ 62) ≤ ((v + 1 : Nat) : Int)) := by omega
  obtain ⟨ys, s2, h2, h3, h4, h5⟩ := lc_inv (tg := gN 3) (fe := eCall m_law_pick [eVar 0, eVar 1, eLst nwF [eCall m_law_level [eVar 0, eVar 1], eC (.str (Str.ofString "+"))]]) (ok := fun _ => True) (env := [some (sc ns), some (.obj t), none, none]) (fun k s => Own (Tw t (N + 1 + 15 * k) :: R) s) (fun y => ∃ q, y = .str (mkS q) ∧ gw q = true) (v + 1) (fun _ _ _ => trivial) (l := (List.range (v + 1)).map fun (k : Nat) => .int (k : Int)) (n := 0) (s := s1) (by rw [List.length_map, List.length_range]; omega) (by simpa using o1)
    (fun n s d _ hn hi => by
      obtain ⟨l, s', j1, j2, j3⟩ := ev_level ns (by omega) hi
      obtain ⟨x, hx, s'', j4, j5⟩ := ev_pick ns (l := [.str (mkS l), .str (mkS [43])]) j3 (by omega) (by simp)
      refine ⟨_, rfl, x, s'', ?_, ?_, ?_⟩
      · simp only [evR, Nat.reduceAdd, Nat.reduceSub, Int.reduceBEq, Int.reduceEq, Int.reduceLT, Int.reduceLE, Int.reduceNeg, Int.reduceAdd, Int.reduceSub, Int.reduceMul, Int.reduceToNat, Nat.reduceLT, Nat.reduceLeDiff, reduceIte, Int.reduceNe, Int.reduceBNe, String.reduceBEq, j2, t_plus, j4]
      · simp only [List.mem_cons, List.not_mem_nil, or_false] at hx
        rcases hx with e | e
        · exact ⟨l, e, by unfold gw; rw [j1, Bool.or_true]⟩
        · exact ⟨[43], e, by decide⟩
      · rw [show N + 1 + 15 * (n + 1) = N + 1 + 15 * n + 14 + 1 by omega]
        exact j5)
  obtain ⟨Q, rfl, hQ⟩ := lvs_ofP h5
  rw [List.length_map, List.length_map, List.length_range] at h4
  rw [List.length_map, List.length_range, Nat.zero_add] at h3
  have hne : Q ≠ [] := fun e => by rw [e] at h4; simp at h4
  unfold m_law_wish
  refine wf_fn ?_
  unfold b_law_wish
  show WS _ _ [some (sc ns), some (.obj t), none, none] s
  refine ws_step (f := u_law_wish_1) (e := [some (sc ns), some (.obj t), some (.obj s2.length), none]) (s1 := s2 ++ [.lst (lvs Q)]) ?_ ?_
  · unfold u_law_wish_1
    simp only [evR, Nat.reduceAdd, Nat.reduceSub, Int.reduceBEq, Int.reduceEq, Int.reduceLT, Int.reduceLE, Int.reduceNeg, Int.reduceAdd, Int.reduceSub, Int.reduceMul, Int.reduceToNat, Nat.reduceLT, Nat.reduceLeDiff, reduceIte, Int.reduceNe, Int.reduceBNe, String.reduceBEq, h1, e0, hr, ev_lc, ev_iRange, Int.toNat_natCast, wipeD_nil, wipeD_cons, bndN, h2]
  generalize hj : s2.length = j
  have o3 : Own (At j (.lst (lvs Q)) :: Tw t (N + 61) :: R) (s2 ++ [.lst (lvs Q)]) := by
    subst hj
    exact (h3.more (by omega)).new _
  generalize s2 ++ [.lst (lvs Q)] = s3 at o3 ⊢
  obtain ⟨u, hu, s4, d4, o4⟩ := ev_draw ns (R := At j (.lst (lvs Q)) :: R) (s := s3) (t := t) (N := N + 61) (many := 3) ((Own.pm o3 (by repeat first | exact Pm.rfl | (apply Pm.cons; repeat first | exact Tk.hd | apply Tk.tl) | apply Pm.skip))) (by omega) (by decide)
  have fin : ∀ (P : List (List Nat)) (z : Sto), P ≠ [] → P.length ≤ 8 → (∀ x ∈ plain P, gw x = true) → (∀ x ∈ P, x.length ≤ 12) → Own (Tw t (N + 62) :: At j (.lst (lvs P)) :: R) z → WS u_law_wish_3 ⟨fun _ s => ∃ w, Dt.non = .str (mkS w) ∧ isWish w = true ∧ Own (Tw t (N + 62) :: R) s, fun d z => ∃ w, d = .str (mkS w) ∧ isWish w = true ∧ Own (Tw t (N + 62) :: R) z, fun _ _ => False, fun _ _ => False, fun c _ s => noX c s⟩ [some (sc ns), some (.obj t), some (.obj j), none] z := by
    intro P z p0 p8 pg p12 oz
    have gz := ((Own.pm oz (by repeat first | exact Pm.rfl | (apply Pm.cons; repeat first | exact Tk.hd | apply Tk.tl) | apply Pm.skip)) : Own (At j (.lst (lvs P)) :: R) z).get
    have dn : dNe (.obj j) (.lst [.str (mkS [])]) z = .ok (.bl (!(P == [[]]))) z := by
      have a := dNe_lvs P [[]] z
      have e2 : toPyS z (.obj j) = toPyS z (.lst (lvs P)) := by
        have := (own_obj ((Own.pm oz (by repeat first | exact Pm.rfl | (apply Pm.cons; repeat first | exact Tk.hd | apply Tk.tl) | apply Pm.skip)) : Own (At j (.lst (lvs P)) :: R) z)).trk
        simp only [toPyS, gz, toPy]
      simp only [dNe, dEqB, e2] at a ⊢
      exact a
    have dj : dJoin (.str (mkS [47])) (.obj j) z = .ok (.str (mkS (TL.joinL [47] P))) z := dJoin_lst (asQ_obj gz) (by
      have := sum_le12 (ps := P) p12
      omega)
    cases hq : (P == [[]]) with
    | true =>
      refine ws_rt (d := .str (mkS [43])) (s1 := z) ?_ ⟨[43], rfl, by decide, (Own.pm oz (by repeat first | exact Pm.rfl | (apply Pm.cons; repeat first | exact Tk.hd | apply Tk.tl) | apply Pm.skip))⟩
      unfold u_law_wish_3
      simp only [evR, Nat.reduceAdd, Nat.reduceSub, Int.reduceBEq, Int.reduceEq, Int.reduceLT, Int.reduceLE, Int.reduceNeg, Int.reduceAdd, Int.reduceSub, Int.reduceMul, Int.reduceToNat, Nat.reduceLT, Nat.reduceLeDiff, reduceIte, Int.reduceNe, Int.reduceBNe, String.reduceBEq, t_nil, dn, hq, t_plus]
    | false =>
      have hq' : P ≠ [[]] := by simpa using hq
      refine ws_rt (d := .str (mkS (TL.joinL [47] P))) (s1 := z) ?_ ⟨_, rfl, wish_join p0 hq' pg p8, (Own.pm oz (by repeat first | exact Pm.rfl | (apply Pm.cons; repeat first | exact Tk.hd | apply Tk.tl) | apply Pm.skip))⟩
      unfold u_law_wish_3
      simp only [evR, Nat.reduceAdd, Nat.reduceSub, Int.reduceBEq, Int.reduceEq, Int.reduceLT, Int.reduceLE, Int.reduceNeg, Int.reduceAdd, Int.reduceSub, Int.reduceMul, Int.reduceToNat, Nat.reduceLT, Nat.reduceLeDiff, reduceIte, Int.reduceNe, Int.reduceBNe, String.reduceBEq, t_nil, dn, hq, t_slash, isStr_str, dj]
  have hQ12 : ∀ x ∈ Q, x.length ≤ 12 := fun x hx => (gw_b (hQ x hx)).2
  by_cases h7 : ((u : Int) == 0) = true
  · have g4 := ((Own.pm o4 (by repeat first | exact Pm.rfl | (apply Pm.cons; repeat first | exact Tk.hd | apply Tk.tl) | apply Pm.skip)) : Own (At j (.lst (lvs Q)) :: R) s4).get
    have pt := put_last (d := .str (mkS [35])) g4 (by simpa [lvs] using hne)
    have o5 : Own (At j (.lst ((lvs Q).set ((lvs Q).length - 1) (.str (mkS [35])))) :: Tw t (N + 62) :: R) (s4.set j (.lst ((lvs Q).set ((lvs Q).length - 1) (.str (mkS [35]))))) := ((Own.pm o4 (by repeat first | exact Pm.rfl | (apply Pm.cons; repeat first | exact Tk.hd | apply Tk.tl) | apply Pm.skip)) : Own (At j (.lst (lvs Q)) :: Tw t (N + 62) :: R) s4).set _
    have es : (lvs Q).set ((lvs Q).length - 1) (.str (mkS [35])) = lvs (Q.dropLast ++ [[35]]) := by
      rcases List.eq_nil_or_concat Q with e | ⟨a, b, e⟩
      · exact absurd e hne
      · subst e
        rw [List.concat_eq_append, List.dropLast_concat]
        simp [lvs]
    rw [es] at pt o5
    refine ws_step (f := u_law_wish_2) (e := [some (sc ns), some (.obj t), some (.obj j), none]) (s1 := s4.set j (.lst (lvs (Q.dropLast ++ [[35]])))) ?_ ?_
    · unfold u_law_wish_2
      simp only [evR, Nat.reduceAdd, Nat.reduceSub, Int.reduceBEq, Int.reduceEq, Int.reduceLT, Int.reduceLE, Int.reduceNeg, Int.reduceAdd, Int.reduceSub, Int.reduceMul, Int.reduceToNat, Nat.reduceLT, Nat.reduceLeDiff, reduceIte, Int.reduceNe, Int.reduceBNe, String.reduceBEq, d4, h7, ev_setI, t_hash, pt]
    refine fin (Q.dropLast ++ [[35]]) _ (by simp) (by rw [List.length_append, List.length_dropLast]; simp only [List.length_cons, List.length_nil]; omega) ?_ ?_ ((Own.pm o5 (by repeat first | exact Pm.rfl | (apply Pm.cons; repeat first | exact Tk.hd | apply Tk.tl) | apply Pm.skip)))
    · intro x hx
      unfold plain at hx
      rw [List.getLast?_concat, if_pos rfl, List.dropLast_concat] at hx
      exact hQ x (mem_dl hx)
    · intro x hx
      rcases List.mem_append.mp hx with q | q
      · exact hQ12 x (mem_dl q)
      · rw [List.mem_singleton] at q; subst q; decide
  · have h7f : ((u : Int) == 0) = false := by simpa using h7
    refine ws_step (f := u_law_wish_2) (e := [some (sc ns), some (.obj t), some (.obj j), none]) (s1 := s4) ?_ ?_
    · unfold u_law_wish_2
      simp only [evR, Nat.reduceAdd, Nat.reduceSub, Int.reduceBEq, Int.reduceEq, Int.reduceLT, Int.reduceLE, Int.reduceNeg, Int.reduceAdd, Int.reduceSub, Int.reduceMul, Int.reduceToNat, Nat.reduceLT, Nat.reduceLeDiff, reduceIte, Int.reduceNe, Int.reduceBNe, String.reduceBEq, d4, h7f]
    exact fin Q _ hne (by omega) (fun x hx => hQ x (plain_sub hx)) hQ12 ((Own.pm o4 (by repeat first | exact Pm.rfl | (apply Pm.cons; repeat first | exact Tk.hd | apply Tk.tl) | apply Pm.skip)))
theorem smalls_at {v : Nat} (h : v < 36) : ∃ c ∈ smalls, atI smalls (v : Int) = some c := by
  rw [atI_ofNat]
  have e : v < smalls.length := h
  exact ⟨smalls[v], List.getElem_mem e, List.getElem?_eq_getElem e⟩
theorem ev_hearer (ns : List Int) {t N : Nat} {R : List SP} {s : Sto} (hN : N + 3000 < 900000) (o : Own (Tw t N :: R) s) : ∃ l s', m_law_hearer [sc ns, .obj t] s = .ok (.str (mkS l)) s' ∧ isHearer l = true ∧ Own (Tw t (N + 13) :: R) s' := by
  obtain ⟨v, hv, s1, h1, o1⟩ := pick_n ns (l := [0, 1, 3, 11]) o (by omega) (by simp)
  have hv8 : v ≤ 11 := by simp at hv; omega
  have h1 : m_law_pick [sc ns, .obj t, .lst [.int 0, .int 1, .int 3, .int 11]] s = .ok (nD v) s1 := h1
  obtain ⟨e, s', h2, h3⟩ := for_range_inv (tg := gN 4) (body := l_law_hearer_1) (fun k env s' => ∃ (l : List Nat) (a : Option Dt), l.length = k ∧ (∀ c ∈ l, c ∈ smalls) ∧ env = [some (sc ns), some (.obj t), some (.str (mkS smalls)), some (.str (mkS l)), a] ∧ Own (Tw t (N + 1 + k) :: R) s') (v + 1) (env := [some (sc ns), some (.obj t), some (.str (mkS smalls)), some (.str (mkS [])), none]) (s := s1)
    ⟨[], none, rfl, (fun _ h => nomatch h), rfl, o1⟩ (fun k env s' hk hi => by
      obtain ⟨l, a, e1, e3, e4, e5⟩ := hi
      subst e4
      obtain ⟨u, hu, s2, e6, o2⟩ := ev_draw ns (many := 36) e5 (by omega) (by decide)
      obtain ⟨c, hc, hat⟩ := smalls_at (v := u) (by omega)
      have bd : l_law_hearer_1 [some (sc ns), some (.obj t), some (.str (mkS smalls)), some (.str (mkS l)), some (.int (k : Int))] s' = .fl (.nx [some (sc ns), some (.obj t), some (.str (mkS smalls)), some (.str (mkS (l ++ [c]))), some (.int (k : Int))]) s2 := by
        unfold l_law_hearer_1
        simp only [evR, Nat.reduceAdd, Nat.reduceSub, Int.reduceBEq, Int.reduceEq, Int.reduceLT, Int.reduceLE, Int.reduceNeg, Int.reduceAdd, Int.reduceSub, Int.reduceMul, Int.reduceToNat, Nat.reduceLT, Nat.reduceLeDiff, reduceIte, Int.reduceNe, Int.reduceBNe, String.reduceBEq, e6, hat, str_obj]
        rw [if_pos (by omega)]
      refine ⟨_, rfl, _, s2, .inl bd, l ++ [c], _, by simp [e1], ?_, rfl, o2⟩
      intro x hx
      rcases List.mem_append.mp hx with q | q
      · exact e3 x q
      · rw [List.mem_singleton] at q; subst q; exact hc)
  obtain ⟨l, a, e1, e3, e4, e5⟩ := h3
  subst e4
  have e0 : (1 : Int) + (v : Int) = ((v + 1 : Nat) : Int) := by omega
  have hr : (((v + 1 : Nat) : Int) ≤ 16777216 ∧ -(2 ^ 62) ≤ ((v + 1 : Nat) : Int)) := by omega
  refine ⟨l, s', ?_, ?_, e5.more (by omega)⟩
  · unfold m_law_hearer b_law_hearer
    simp only [evR, Nat.reduceAdd, Nat.reduceSub, Int.reduceBEq, Int.reduceEq, Int.reduceLT, Int.reduceLE, Int.reduceNeg, Int.reduceAdd, Int.reduceSub, Int.reduceMul, Int.reduceToNat, Nat.reduceLT, Nat.reduceLeDiff, reduceIte, Int.reduceNe, Int.reduceBNe, String.reduceBEq, t_small, t_nil, h1, e0, ev_for, ev_iRange, hr, Int.toNat_natCast, h2]
  · unfold isHearer
    rw [Bool.and_eq_true]
    exact ⟨decide_eq_true (by omega), List.all_eq_true.mpr fun c hc => decide_eq_true (e3 c hc)⟩
theorem ev_body (ns : List Int) {t N : Nat} {R : List SP} {s : Sto} (hN : N + 3000 < 900000) (o : Own (Tw t N :: R) s) : ∃ l s', m_law_body [sc ns, .obj t] s = .ok (.str (mkS l)) s' ∧ l.all bsgn = true ∧ l.length ≤ 30 ∧ Own (Tw t (N + 31) :: R) s' := by
  obtain ⟨v, hv, s1, h1, o1⟩ := pick_n ns (l := [0, 1, 3, 9, 30]) o (by omega) (by simp)
  have hv8 : v ≤ 30 := by simp at hv; omega
  have h1 : m_law_pick [sc ns, .obj t, .lst [.int 0, .int 1, .int 3, .int 9, .int 30]] s = .ok (nD v) s1 := h1
  obtain ⟨l, s2, e1, e2, e3, o2⟩ := ev_signsT ns (many := v) (by omega) (by omega) o1
  refine ⟨l, s2, ?_, e2, by omega, o2.more (by omega)⟩
  unfold m_law_body b_law_body
  simp only [evR, Nat.reduceAdd, Nat.reduceSub, Int.reduceBEq, Int.reduceEq, Int.reduceLT, Int.reduceLE, Int.reduceNeg, Int.reduceAdd, Int.reduceSub, Int.reduceMul, Int.reduceToNat, Nat.reduceLT, Nat.reduceLeDiff, reduceIte, Int.reduceNe, Int.reduceBNe, String.reduceBEq, h1, e3]
theorem repS_one (k : Nat) : repS (mkS [120]) k = mkS (List.replicate k 120) := by
  rw [mkS_eq (repS (mkS [120]) k), repS_codes]
  have : (List.replicate k (mkS [120]).cps.toList).flatten = List.replicate k 120 := by
    induction k with
    | zero => rfl
    | succ k ih => rw [List.replicate_succ, List.flatten_cons, ih, List.replicate_succ]; rfl
  rw [this]
theorem rep_x {k : Nat} (h : 2 ≤ k) (h2 : k ≤ 1000) {s : Sto} : dRepS (.str (mkS [120])) (.int (k : Int)) s = .ok (.str (mkS (List.replicate k 120))) s := by
  have e : decide (2 ≤ (k : Int) ∧ 0 < (mkS [120]).length ∧ (mkS [120]).length * (k : Int).toNat ≤ 1000000) = true := decide_eq_true ⟨by omega, by rw [mkS_len]; decide, by rw [mkS_len, Int.toNat_natCast]; simp only [List.length_cons, List.length_nil]; omega⟩
  have e2 : repS (mkS [120]) (k : Int).toNat = mkS (List.replicate k 120) := by
    rw [Int.toNat_natCast]
    exact repS_one k
  simp only [dRepS, e, if_true, e2]
theorem ev_tiding (ns : List Int) {t N : Nat} {R : List SP} {s : Sto} (hN : N + 5000 < 900000) (o : Own (Tw t N :: R) s) : ∃ (z : Tz) (s' : Sto), m_law_tiding [sc ns, .obj t] s = .ok z.td.d s' ∧ z.Ok ∧ Own (Tw t (N + 148) :: R) s' := by
  obtain ⟨b, s1, h1, hb1, hb2, o1⟩ := ev_body ns (by omega) o
  obtain ⟨u, hu, s2, h2, o2⟩ := ev_draw ns (many := 6) o1 (by omega) (by decide)
  have rest : ∀ (body : List Nat) (s3 : Sto), body.all bsgn = true → body.length ≤ 300 → Own (Tw t (N + 33) :: R) s3 →
      ∃ (z : Tz) (s' : Sto), (sRet (eTup [eCall m_law_name [eVar 0, eVar 1], eVar 2, eCall m_law_draw [eVar 0, eVar 1, eC (.int 3)], eOp dEq (eCall m_law_draw [eVar 0, eVar 1, eC (.int 2)]) (eC (.int 0))])) [some (sc ns), some (.obj t), some (.str (mkS body))] s3 = .fl (.rt z.td.d) s' ∧ z.Ok ∧ Own (Tw t (N + 148) :: R) s' := by
    intro body s3 k1 k2 o3
    obtain ⟨n, s4, q4, hn, o4⟩ := ev_name ns (by omega) o3
    obtain ⟨g, hg, s5, q5, o5⟩ := ev_draw ns (many := 3) o4 (by omega) (by decide)
    obtain ⟨k, hk, s6, q6, o6⟩ := ev_draw ns (many := 2) o5 (by omega) (by decide)
    refine ⟨⟨n, body, g, (k : Int) == 0⟩, s6, ?_, ⟨hn, ?_, by show g ≤ 2; omega⟩, o6.more (by omega)⟩
    · simp only [evR, Nat.reduceAdd, Nat.reduceSub, Int.reduceBEq, Int.reduceEq, Int.reduceLT, Int.reduceLE, Int.reduceNeg, Int.reduceAdd, Int.reduceSub, Int.reduceMul, Int.reduceToNat, Nat.reduceLT, Nat.reduceLeDiff, reduceIte, Int.reduceNe, Int.reduceBNe, String.reduceBEq, q4, q5, q6]
      rfl
    · unfold isBody
      rw [k1, Bool.and_true]
      exact decide_eq_true k2
  by_cases h6 : ((u : Int) == 0) = true
  · obtain ⟨v, hv, s3, h3, o3⟩ := pick_n ns (l := [97, 110, 130, 270]) o2 (by omega) (by simp)
    have hv8 : v = 97 ∨ v = 110 ∨ v = 130 ∨ v = 270 := by simpa using hv
    have h3 : m_law_pick [sc ns, .obj t, .lst [.int 97, .int 110, .int 130, .int 270]] s2 = .ok (nD v) s3 := h3
    obtain ⟨z, s', q, hz, oz⟩ := rest (b ++ List.replicate v 120) s3 (by
      rw [List.all_append, hb1]
      simp only [Bool.true_and, List.all_eq_true]
      intro c hc
      rw [List.mem_replicate] at hc
      rw [hc.2]
      decide) (by rw [List.length_append, List.length_replicate]; omega) (o3.more (by omega))
    refine ⟨z, s', ?_, hz, oz⟩
    have rx := rep_x (k := v) (s := s3) (by omega) (by omega)
    unfold m_law_tiding
    refine ws_chk ?_
    unfold b_law_tiding
    refine ws_step (e := [some (sc ns), some (.obj t), some (.str (mkS b))]) (s1 := s1) (by simp only [evR, Nat.reduceAdd, Nat.reduceSub, Int.reduceBEq, Int.reduceEq, Int.reduceLT, Int.reduceLE, Int.reduceNeg, Int.reduceAdd, Int.reduceSub, Int.reduceMul, Int.reduceToNat, Nat.reduceLT, Nat.reduceLeDiff, reduceIte, Int.reduceNe, Int.reduceBNe, String.reduceBEq, h1]) ?_
    refine ws_step (e := [some (sc ns), some (.obj t), some (.str (mkS (b ++ List.replicate v 120)))]) (s1 := s3) ?_ (ws_rt q ⟨rfl, rfl⟩)
    simp only [evR, Nat.reduceAdd, Nat.reduceSub, Int.reduceBEq, Int.reduceEq, Int.reduceLT, Int.reduceLE, Int.reduceNeg, Int.reduceAdd, Int.reduceSub, Int.reduceMul, Int.reduceToNat, Nat.reduceLT, Nat.reduceLeDiff, reduceIte, Int.reduceNe, Int.reduceBNe, String.reduceBEq, h2, h6, t_x, h3, rx, str_obj]
    rw [if_pos (by rw [List.length_replicate]; omega)]
  · have h6f : ((u : Int) == 0) = false := by simpa using h6
    obtain ⟨z, s', q, hz, oz⟩ := rest b s2 hb1 (by omega) (o2.more (by omega))
    refine ⟨z, s', ?_, hz, oz⟩
    unfold m_law_tiding
    refine ws_chk ?_
    unfold b_law_tiding
    refine ws_step (e := [some (sc ns), some (.obj t), some (.str (mkS b))]) (s1 := s1) (by simp only [evR, Nat.reduceAdd, Nat.reduceSub, Int.reduceBEq, Int.reduceEq, Int.reduceLT, Int.reduceLE, Int.reduceNeg, Int.reduceAdd, Int.reduceSub, Int.reduceMul, Int.reduceToNat, Nat.reduceLT, Nat.reduceLeDiff, reduceIte, Int.reduceNe, Int.reduceBNe, String.reduceBEq, h1]) ?_
    refine ws_step (e := [some (sc ns), some (.obj t), some (.str (mkS b))]) (s1 := s2) ?_ (ws_rt q ⟨rfl, rfl⟩)
    simp only [evR, Nat.reduceAdd, Nat.reduceSub, Int.reduceBEq, Int.reduceEq, Int.reduceLT, Int.reduceLE, Int.reduceNeg, Int.reduceAdd, Int.reduceSub, Int.reduceMul, Int.reduceToNat, Nat.reduceLT, Nat.reduceLeDiff, reduceIte, Int.reduceNe, Int.reduceBNe, String.reduceBEq, h2, h6f]
theorem ev_id (ns : List Int) {t N : Nat} {R : List SP} {s : Sto} (hN : N + 3000 < 900000) (o : Own (Tw t N :: R) s) : ∃ (i : Nat) (s' : Sto), m_law_id [sc ns, .obj t] s = .ok (nD i) s' ∧ idN i ∧ Own (Tw t (N + 2) :: R) s' := by
  obtain ⟨v, hv, s1, h1, o1⟩ := pick_n ns (l := [3, 255, 300, 65535]) o (by omega) (by simp)
  have hv8 : v = 3 ∨ v = 255 ∨ v = 300 ∨ v = 65535 := by simpa using hv
  have h1 : m_law_pick [sc ns, .obj t, .lst [.int 3, .int 255, .int 300, .int 65535]] s = .ok (nD v) s1 := h1
  obtain ⟨u, hu, s2, h2, o2⟩ := ev_draw ns (many := (v : Int)) o1 (by omega) (by omega)
  refine ⟨u + 1, s2, ?_, ⟨by omega, by omega⟩, o2⟩
  have e0 : (1 : Int) + (u : Int) = ((u + 1 : Nat) : Int) := by omega
  unfold m_law_id b_law_id
  simp only [evR, Nat.reduceAdd, Nat.reduceSub, Int.reduceBEq, Int.reduceEq, Int.reduceLT, Int.reduceLE, Int.reduceNeg, Int.reduceAdd, Int.reduceSub, Int.reduceMul, Int.reduceToNat, Nat.reduceLT, Nat.reduceLeDiff, reduceIte, Int.reduceNe, Int.reduceBNe, String.reduceBEq, h1, h2, e0]
abbrev Ent := List Nat × Nat × Nat
def Ent.Ok (e : Ent) : Prop := isWish e.1 = true ∧ e.2.1 ≤ 2 ∧ (e.2.2 = 0 ∨ e.2.2 = 1 ∨ e.2.2 = 2 ∨ e.2.2 = 128)
def entD (k : Nat) (e : Ent) : Dt := if k = 8 then .tup [tD e.1, nD e.2.1] else if k = 9 then nD e.2.2 else tD e.1
theorem disp_get {k : Nat} (hk : k = 8 ∨ k = 9 ∨ k = 10) {e : Ent} {s : Sto} : dDget (.obj s.length) (.str (Str.ofString (kw k))) (s ++ [.dic (([Str.ofString "hear", Str.ofString "heard", Str.ofString "drop"].map Sum.inr).zip [.tup [tD e.1, nD e.2.1], nD e.2.2, tD e.1])]) = .ok (entD k e) (s ++ [.dic (([Str.ofString "hear", Str.ofString "heard", Str.ofString "drop"].map Sum.inr).zip [.tup [tD e.1, nD e.2.1], nD e.2.2, tD e.1])]) := by
  have g : (s ++ [Mo.dic (([Str.ofString "hear", Str.ofString "heard", Str.ofString "drop"].map Sum.inr).zip [.tup [tD e.1, nD e.2.1], nD e.2.2, tD e.1])])[s.length]? = some (.dic (([Str.ofString "hear", Str.ofString "heard", Str.ofString "drop"].map Sum.inr).zip [.tup [tD e.1, nD e.2.1], nD e.2.2, tD e.1])) := by simp
  refine dget_of g ?_
  rcases hk with h | h | h <;> subst h
  · show valA ((Sum.inr (Str.ofString "hear"), _) :: _) (Sum.inr (Str.ofString "hear")) = _
    rw [valA_w, if_pos (by decide)]
    rfl
  · show valA ((Sum.inr (Str.ofString "hear"), _) :: (Sum.inr (Str.ofString "heard"), _) :: _) (Sum.inr (Str.ofString "heard")) = _
    rw [valA_w, if_neg (by decide), valA_w, if_pos (by decide)]
    rfl
  · show valA ((Sum.inr (Str.ofString "hear"), _) :: (Sum.inr (Str.ofString "heard"), _) :: (Sum.inr (Str.ofString "drop"), _) :: _) (Sum.inr (Str.ofString "drop")) = _
    rw [valA_w, if_neg (by decide), valA_w, if_neg (by decide), valA_w, if_pos (by decide)]
    rfl
theorem call2_ok {f : Fn} {fa fb : Ex} {env : En} {s s1 s2 : Sto} {x y : Dt} (h1 : fa env s = .ok x s1) (h2 : fb env s1 = .ok y s2) : eCall f [fa, fb] env s = f [x, y] s2 := by
  rw [ev_call]
  unfold bnd
  rw [evs_cons]
  unfold bnd
  rw [h1]
  dsimp only
  rw [evs_cons]
  unfold bnd
  rw [h2]
  rfl
theorem ent_turn (ns : List Int) {k : Nat} (hk : k = 8 ∨ k = 9 ∨ k = 10) {t N j : Nat} {acc : List Ent} {x2 x8 x9 x10 : Option Dt} {R : List SP} {s : Sto} (hN : N + 5000 < 900000) (hz : acc.length ≤ 100) (o : Own (Tw t N :: At j (.lst (acc.map (entD k))) :: R) s) :
    ∃ (e : Ent) (y9 y10 : Option Dt) (s' : Sto), e.Ok ∧ l_law_packet_1 [some (sc ns), some (.obj t), x2, some (.str (Str.ofString (kw k))), none, none, none, some (.obj j), x8, x9, x10] s = .fl (.nx [some (sc ns), some (.obj t), x2, some (.str (Str.ofString (kw k))), none, none, none, some (.obj j), x8, y9, y10]) s' ∧ Own (Tw t (N + 64) :: At j (.lst ((acc ++ [e]).map (entD k))) :: R) s' := by
  obtain ⟨w, s1, h1, hw, o1⟩ := ev_wish ns (by omega) o
  obtain ⟨g, hg, s2, h2, o2⟩ := ev_draw ns (many := 3) o1 (by omega) (by decide)
  obtain ⟨h, hh, s3, h3, o3⟩ := pick_n ns (l := [g, 128]) o2 (by omega) (by simp)
  have h3 : m_law_pick [sc ns, .obj t, .lst [nD g, .int 128]] s2 = .ok (nD h) s3 := h3
  have hh2 : h = g ∨ h = 128 := by simpa using hh
  have o4 : Own (Tw t (N + 64) :: At j (.lst (acc.map (entD k))) :: R) (s3 ++ [.dic (([Str.ofString "hear", Str.ofString "heard", Str.ofString "drop"].map Sum.inr).zip [.tup [tD w, nD g], nD h, tD w])]) := o3.app _
  have dg := disp_get hk (e := (w, g, h)) (s := s3)
  have d1 : (eDisp [Str.ofString "hear", Str.ofString "heard", Str.ofString "drop"] [eTup [eVar 9, eVar 10], eCall m_law_pick [eVar 0, eVar 1, eLst nwF [eVar 10, eC (.int 128)]], eVar 9]) [some (sc ns), some (.obj t), x2, some (.str (Str.ofString (kw k))), none, none, none, some (.obj j), x8, some (tD w), some (nD g)] s2 = .ok (.obj s3.length) (s3 ++ [.dic (([Str.ofString "hear", Str.ofString "heard", Str.ofString "drop"].map Sum.inr).zip [.tup [tD w, nD g], nD h, tD w])]) := by
    have c : (eCall m_law_pick [eVar 0, eVar 1, eLst nwF [eVar 10, eC (.int 128)]]) [some (sc ns), some (.obj t), x2, some (.str (Str.ofString (kw k))), none, none, none, some (.obj j), x8, some (tD w), some (nD g)] s2 = .ok (nD h) s3 := (call3_ok (fa := eVar 0) (fb := eVar 1) rfl rfl (lst2_ok (fa := eVar 10) (fb := eC (.int 128)) rfl rfl)).trans h3
    unfold eDisp bnd
    rw [evs_cons]
    unfold bnd
    rw [show (eTup [eVar 9, eVar 10]) [some (sc ns), some (.obj t), x2, some (.str (Str.ofString (kw k))), none, none, none, some (.obj j), x8, some (tD w), some (nD g)] s2 = .ok (.tup [tD w, nD g]) s2 from rfl]
    dsimp only
    rw [evs_cons]
    unfold bnd
    rw [c]
    rfl
  have d2 := (op_ok (op := dDget) (fb := eVar 3) d1 rfl).trans dg
  generalize s3 ++ [Mo.dic (([Str.ofString "hear", Str.ofString "heard", Str.ofString "drop"].map Sum.inr).zip [.tup [tD w, nD g], nD h, tD w])] = s4 at o4 d2
  have g4 := ((Own.pm o4 (by repeat first | exact Pm.rfl | (apply Pm.cons; repeat first | exact Tk.hd | apply Tk.tl) | apply Pm.skip)) : Own (At j (.lst (acc.map (entD k))) :: R) _).get
  have ap := dApp_at (y := entD k (w, g, h)) g4 (by rw [List.length_map]; omega)
  have o5 := ((Own.pm o4 (by repeat first | exact Pm.rfl | (apply Pm.cons; repeat first | exact Tk.hd | apply Tk.tl) | apply Pm.skip)) : Own (At j (.lst (acc.map (entD k))) :: Tw t (N + 64) :: R) _).set (.lst (acc.map (entD k) ++ [entD k (w, g, h)]))
  refine ⟨(w, g, h), some (tD w), some (nD g), s4.set j (.lst (acc.map (entD k) ++ [entD k (w, g, h)])), ⟨hw, by show g ≤ 2; omega, by show h = 0 ∨ h = 1 ∨ h = 2 ∨ h = 128; omega⟩, ?_, ?_⟩
  rotate_left
  · rw [List.map_append]
    exact (Own.pm o5 (by repeat first | exact Pm.rfl | (apply Pm.cons; repeat first | exact Tk.hd | apply Tk.tl) | apply Pm.skip))
  · refine st_seqR (e := [some (sc ns), some (.obj t), x2, some (.str (Str.ofString (kw k))), none, none, none, some (.obj j), x8, some (tD w), x10]) (s1 := s1) (st_asg ((call2_ok (fa := eVar 0) (fb := eVar 1) rfl rfl).trans h1)) ?_
    refine st_seqR (e := [some (sc ns), some (.obj t), x2, some (.str (Str.ofString (kw k))), none, none, none, some (.obj j), x8, some (tD w), some (nD g)]) (s1 := s2) (st_asg ((call3_ok (fa := eVar 0) (fb := eVar 1) (fc := eC (.int 3)) rfl rfl rfl).trans h2)) ?_
    exact st_expr ((bm1_ok (fo := eVar 7) (x := .obj j) (s1 := s2) rfl (isLst_obj (((Own.pm o2 (by repeat first | exact Pm.rfl | (apply Pm.cons; repeat first | exact Tk.hd | apply Tk.tl) | apply Pm.skip)) : Own (At j (.lst (acc.map (entD k))) :: R) _).get)) d2).trans ap)
end Tx
namespace Tx
open PySem L2 Pd
def wordsL : List Dt := [.str (Str.ofString (kw 1)), .str (Str.ofString (kw 3)), .str (Str.ofString (kw 3)), .str (Str.ofString (kw 8)), .str (Str.ofString (kw 9)), .str (Str.ofString (kw 10)), .str (Str.ofString (kw 2)), .str (Str.ofString (kw 14)), .str (Str.ofString (kw 12)), .str (Str.ofString (kw 13))]
def ansL : List Dt := [.str (Str.ofString (kw 4)), .str (Str.ofString (kw 5)), .str (Str.ofString (kw 6)), .str (Str.ofString (kw 7)), .str (Str.ofString (kw 11))]
theorem words_of {x : Dt} (h : x ∈ wordsL) : ∃ k, x = .str (Str.ofString (kw k)) ∧ (k = 1 ∨ k = 2 ∨ k = 3 ∨ k = 8 ∨ k = 9 ∨ k = 10 ∨ k = 12 ∨ k = 13 ∨ k = 14) := by
  unfold wordsL at h
  simp only [List.mem_cons, List.not_mem_nil, or_false] at h
  rcases h with e | e | e | e | e | e | e | e | e | e
  · exact ⟨1, e, by omega⟩
  · exact ⟨3, e, by omega⟩
  · exact ⟨3, e, by omega⟩
  · exact ⟨8, e, by omega⟩
  · exact ⟨9, e, by omega⟩
  · exact ⟨10, e, by omega⟩
  · exact ⟨2, e, by omega⟩
  · exact ⟨14, e, by omega⟩
  · exact ⟨12, e, by omega⟩
  · exact ⟨13, e, by omega⟩
theorem ans_of {x : Dt} (h : x ∈ ansL) : ∃ k, x = .str (Str.ofString (kw k)) ∧ (k = 4 ∨ k = 5 ∨ k = 6 ∨ k = 7 ∨ k = 11) := by
  unfold ansL at h
  simp only [List.mem_cons, List.not_mem_nil, or_false] at h
  rcases h with e | e | e | e | e
  · exact ⟨4, e, by omega⟩
  · exact ⟨5, e, by omega⟩
  · exact ⟨6, e, by omega⟩
  · exact ⟨7, e, by omega⟩
  · exact ⟨11, e, by omega⟩
theorem eq0 {e : Ex} {env : En} {s s' : Sto} {n : Nat} (h : e env s = .ok (nD n) s') : (eOp dEq e (eC (.int 0))) env s = .ok (.bl ((n : Int) == 0)) s' := (op_ok (fb := eC (.int 0)) h rfl).trans dEq_int
theorem some_pk {k : Nat} (hk : k = 8 ∨ k = 9 ∨ k = 10) {i : Nat} (hi : idN i) {acc : List Ent} (h1 : 1 ≤ acc.length) (h10 : acc.length ≤ 10) (ha : ∀ e ∈ acc, e.Ok) : ∃ p : Pz, p.Ok ∧ p.d = .tup [.str (Str.ofString (kw k)), nD i, .tup (acc.map (entD k))] := by
  rcases hk with h | h | h <;> subst h
  · refine ⟨.hea i (acc.map fun e => (e.1, e.2.1)), ⟨hi, by rw [List.length_map]; exact ⟨h1, h10⟩, fun x hx => ?_⟩, ?_⟩
    · obtain ⟨e, he, rfl⟩ := List.mem_map.mp hx
      exact ⟨(ha e he).1, (ha e he).2.1⟩
    · simp only [Pz.d, Pz.pk, Pk.d, List.map_map]
      rfl
  · refine ⟨.hrd i (acc.map fun e => e.2.2), ⟨hi, by rw [List.length_map]; exact ⟨h1, h10⟩, fun x hx => ?_⟩, ?_⟩
    · obtain ⟨e, he, rfl⟩ := List.mem_map.mp hx
      exact (ha e he).2.2
    · simp only [Pz.d, Pz.pk, Pk.d, List.map_map]
      rfl
  · refine ⟨.drp i (acc.map fun e => e.1), ⟨hi, by rw [List.length_map]; exact ⟨h1, h10⟩, fun x hx => ?_⟩, ?_⟩
    · obtain ⟨e, he, rfl⟩ := List.mem_map.mp hx
      exact (ha e he).1
    · simp only [Pz.d, Pz.pk, Pk.d, List.map_map]
      rfl
theorem ev_packet (ns : List Int) {t N : Nat} {R : List SP} {s : Sto} (hN : N + 20000 < 900000) (o : Own (Tw t N :: R) s) : ∃ (p : Pz) (s' : Sto), m_law_packet [sc ns, .obj t] s = .ok p.d s' ∧ p.Ok ∧ Own (Tw t (N + 800) :: R) s' := by
  suffices k : WO (m_law_packet [sc ns, .obj t] s) (fun d z => ∃ p : Pz, d = p.d ∧ p.Ok ∧ Own (Tw t (N + 800) :: R) z) noX by
    obtain ⟨d, z, e, p, rfl, h1, h2⟩ := wo_iff k
    exact ⟨p, z, e, h1, h2⟩
  unfold m_law_packet
  refine wf_fn ?_
  unfold b_law_packet
  show WS _ _ [some (sc ns), some (.obj t), none, none, none, none, none, none, none, none, none] s
  refine ws_step (f := u_law_packet_1) (e := [some (sc ns), some (.obj t), some (.lst wordsL), none, none, none, none, none, none, none, none]) (s1 := s) (st_asg rfl) ?_
  obtain ⟨x, hx, s1, h1, o1⟩ := ev_pick ns (l := wordsL) o (by omega) (by simp [wordsL])
  obtain ⟨k, rfl, hk⟩ := words_of hx
  refine ws_step (f := u_law_packet_2) (e := [some (sc ns), some (.obj t), some (.lst wordsL), some (.str (Str.ofString (kw k))), none, none, none, none, none, none, none]) (s1 := s1) (st_asg ((call3_ok (fa := eVar 0) (fb := eVar 1) (fc := eVar 2) rfl rfl rfl).trans h1)) ?_
  have hk1 : kOk k := by unfold kOk; omega
  obtain ⟨w1, w2, w3⟩ := kw_con k hk1
  by_cases c1 : k = 1
  · subst c1
    obtain ⟨u, hu, s2, h2, o2⟩ := ev_draw ns (many := 2) o1 (by omega) (by decide)
    have hw : ∃ (w : Option Tz) (s3 : Sto), (eIf (tBl (eOp dEq (eCall m_law_draw [eVar 0, eVar 1, eC (.int 2)]) (eC (.int 0)))) (eCall m_law_tiding [eVar 0, eVar 1]) (eC .non)) [some (sc ns), some (.obj t), some (.lst wordsL), some (.str (Str.ofString (kw 1))), none, none, none, none, none, none, none] s1 = .ok (optZ w) s3 ∧ (∀ z, w = some z → z.Ok) ∧ Own (Tw t (N + 150) :: R) s3 := by
      have tt := tBl_ok (eq0 ((call3_ok (env := [some (sc ns), some (.obj t), some (.lst wordsL), some (.str (Str.ofString (kw 1))), none, none, none, none, none, none, none]) (fa := eVar 0) (fb := eVar 1) (fc := eC (.int 2)) rfl rfl rfl).trans h2))
      rw [ex_if tt]
      by_cases hu0 : ((u : Int) == 0) = true
      · rw [if_pos hu0]
        obtain ⟨z, s3, h3, hz, o3⟩ := ev_tiding ns (by omega) o2
        exact ⟨some z, s3, (call2_ok (fa := eVar 0) (fb := eVar 1) rfl rfl).trans h3, (fun q e => by cases e; exact hz), o3.more (by omega)⟩
      · rw [if_neg hu0]
        exact ⟨none, s2, rfl, (fun q e => nomatch e), o2.more (by omega)⟩
    obtain ⟨w, s3, h3, hz, o3⟩ := hw
    obtain ⟨hh, s4, h4, hhe, o4⟩ := ev_hearer ns (by omega) o3
    obtain ⟨c, hc, s5, h5, o5⟩ := ev_draw ns (many := 2) o4 (by omega) (by decide)
    refine ws_out (f := u_law_packet_3) (d := (Pz.con hh ((c : Int) == 0) w).d) (s1 := s5) ?_ ⟨_, rfl, ⟨hhe, hz⟩, o5.more (by omega)⟩
    refine st_ifT (t_w rfl w1) (st_seqA h3 (st_ret ?_))
    rw [con_d, ev_tup]
    unfold bnd
    rw [evs_cons]
    unfold bnd
    rw [show (eC (.str (Str.ofString "connect"))) ([some (sc ns), some (.obj t), some (.lst wordsL), some (.str (Str.ofString (kw 1))), none, none, none, none, none, none, none].set 4 (some (optZ w))) s3 = .ok (wS "connect") s3 from rfl]
    dsimp only
    rw [evs_cons]
    unfold bnd
    rw [(call2_ok (fa := eVar 0) (fb := eVar 1) rfl rfl).trans h4]
    dsimp only
    rw [evs_cons]
    unfold bnd
    rw [eq0 ((call3_ok (fa := eVar 0) (fb := eVar 1) (fc := eC (.int 2)) rfl rfl rfl).trans h5)]
    rfl
  have c1b : (k == 1) = false := by simpa using c1
  refine ws_step (f := u_law_packet_3) (st_ifF (s1 := s1) (t_w rfl (w1.trans c1b))) ?_
  by_cases c3 : k = 3
  · subst c3
    obtain ⟨z, s2, h2, hz, o2⟩ := ev_tiding ns (by omega) o1
    have hn : ∃ (i : Nat) (s3 : Sto), (eIf (tBl (eOp dGt (eOp dIx (eVar 5) (eC (.int 2))) (eC (.int 0)))) (eCall m_law_id [eVar 0, eVar 1]) (eC (.int 0))) [some (sc ns), some (.obj t), some (.lst wordsL), some (.str (Str.ofString (kw 3))), none, some z.td.d, none, none, none, none, none] s2 = .ok (nD i) s3 ∧ (if 0 < z.g then idN i else i = 0) ∧ Own (Tw t (N + 160) :: R) s3 := by
      have tt : (tBl (eOp dGt (eOp dIx (eVar 5) (eC (.int 2))) (eC (.int 0)))) [some (sc ns), some (.obj t), some (.lst wordsL), some (.str (Str.ofString (kw 3))), none, some z.td.d, none, none, none, none, none] s2 = .ok (decide (0 < z.g)) s2 := gt0 rfl
      rw [ex_if tt]
      by_cases hg : 0 < z.g
      · rw [decide_eq_true hg, if_pos rfl]
        obtain ⟨i, s3, h3, hi, o3⟩ := ev_id ns (by omega) o2
        exact ⟨i, s3, (call2_ok (fa := eVar 0) (fb := eVar 1) rfl rfl).trans h3, by rw [if_pos hg]; exact hi, o3.more (by omega)⟩
      · rw [decide_eq_false hg, if_neg (by decide)]
        exact ⟨0, s2, rfl, by rw [if_neg hg], o2.more (by omega)⟩
    obtain ⟨i, s3, h3, hi, o3⟩ := hn
    have ha : ∃ (ag : Bool) (s4 : Sto), (eAnd (eOp dGt (eVar 6) (eC (.int 0))) (eOp dEq (eCall m_law_draw [eVar 0, eVar 1, eC (.int 2)]) (eC (.int 0)))) [some (sc ns), some (.obj t), some (.lst wordsL), some (.str (Str.ofString (kw 3))), none, some z.td.d, some (nD i), none, none, none, none] s3 = .ok (.bl ag) s4 ∧ (0 < i ∨ ag = false) ∧ Own (Tw t (N + 161) :: R) s4 := by
      obtain ⟨c, hc, s4, h4, o4⟩ := ev_draw ns (many := 2) o3 (by omega) (by decide)
      have q1 := eq0 ((call3_ok (env := [some (sc ns), some (.obj t), some (.lst wordsL), some (.str (Str.ofString (kw 3))), none, some z.td.d, some (nD i), none, none, none, none]) (fa := eVar 0) (fb := eVar 1) (fc := eC (.int 2)) rfl rfl rfl).trans h4)
      have q0 : (eOp dGt (eVar 6) (eC (.int 0))) [some (sc ns), some (.obj t), some (.lst wordsL), some (.str (Str.ofString (kw 3))), none, some z.td.d, some (nD i), none, none, none, none] s3 = .ok (.bl (decide (0 < i))) s3 := by
        by_cases hi0 : 0 < i
        · have : (0 : Int) < i := by omega
          simp only [runR, Nat.reduceAdd, Nat.reduceSub, Int.reduceBEq, Int.reduceEq, Int.reduceLT, Int.reduceLE, Int.reduceNeg, Int.reduceAdd, Int.reduceSub, Int.reduceMul, Int.reduceToNat, Nat.reduceLT, Nat.reduceLeDiff, reduceIte, Int.reduceNe, Int.reduceBNe, String.reduceBEq, dGt, this, hi0]
        · have : ¬ (0 : Int) < i := by omega
          simp only [runR, Nat.reduceAdd, Nat.reduceSub, Int.reduceBEq, Int.reduceEq, Int.reduceLT, Int.reduceLE, Int.reduceNeg, Int.reduceAdd, Int.reduceSub, Int.reduceMul, Int.reduceToNat, Nat.reduceLT, Nat.reduceLeDiff, reduceIte, Int.reduceNe, Int.reduceBNe, String.reduceBEq, dGt, this, hi0]
      unfold eAnd bnd
      rw [q0]
      by_cases hi0 : 0 < i
      · rw [decide_eq_true hi0]
        exact ⟨(c : Int) == 0, s4, q1, .inl hi0, o4⟩
      · rw [decide_eq_false hi0]
        exact ⟨false, s3, rfl, .inr rfl, o3.more (by omega)⟩
    obtain ⟨ag, s4, h4, hag, o4⟩ := ha
    have pok : (Pz.say z ag i).Ok := by
      refine ⟨hz, ?_⟩
      by_cases hg : 0 < z.g
      · rw [if_pos hg] at hi ⊢
        exact hi
      · rw [if_neg hg] at hi ⊢
        refine ⟨hi, ?_⟩
        rcases hag with q | q
        · omega
        · exact q
    refine ws_out (f := u_law_packet_4) (d := (Pz.say z ag i).d) (s1 := s4) ?_ ⟨_, rfl, pok, o4.more (by omega)⟩
    refine st_ifT (t_w rfl w3) (st_seqA ((call2_ok (fa := eVar 0) (fb := eVar 1) rfl rfl).trans h2) (st_seqA h3 (st_ret ?_)))
    have t1 : (eOp (dAdd nwF) (eTup [eC (.str (Str.ofString "say"))]) (eVar 5)) [some (sc ns), some (.obj t), some (.lst wordsL), some (.str (Str.ofString (kw 3))), none, some z.td.d, some (nD i), none, none, none, none] s3 = .ok (.tup ([wS "say"] ++ [z.td.nm, z.td.bd, .int z.td.g, z.td.kp])) s3 := (op_ok (fa := eTup [eC (.str (Str.ofString "say"))]) (fb := eVar 5) rfl rfl).trans (dAdd_tup (by simp))
    have t2 : (eTup [eAnd (eOp dGt (eVar 6) (eC (.int 0))) (eOp dEq (eCall m_law_draw [eVar 0, eVar 1, eC (.int 2)]) (eC (.int 0))), eVar 6]) [some (sc ns), some (.obj t), some (.lst wordsL), some (.str (Str.ofString (kw 3))), none, some z.td.d, some (nD i), none, none, none, none] s3 = .ok (.tup [.bl ag, nD i]) s4 := by
      rw [ev_tup]
      unfold bnd
      rw [evs_cons]
      unfold bnd
      rw [h4]
      rfl
    exact (op_ok (op := dAdd nwF) t1 t2).trans (dAdd_tup (by simp))
  have c3b : (k == 3) = false := by simpa using c3
  refine ws_step (f := u_law_packet_4) (st_ifF (s1 := s1) (t_w rfl (w3.trans c3b))) ?_
  have t5 : (tBl (eOp dIn (eVar 3) (eTup [eC (.str (Str.ofString "hear")), eC (.str (Str.ofString "heard")), eC (.str (Str.ofString "drop"))]))) [some (sc ns), some (.obj t), some (.lst wordsL), some (.str (Str.ofString (kw k))), none, none, none, none, none, none, none] s1 = .ok (k == 8 || (k == 9 || k == 10)) s1 :=
    tBl_ok ((op_ok (fa := eVar 3) (fb := eTup [eC (.str (Str.ofString "hear")), eC (.str (Str.ofString "heard")), eC (.str (Str.ofString "drop"))]) rfl rfl).trans (by rw [dIn_t3, kw_some k hk1]))
  by_cases c5 : k = 8 ∨ k = 9 ∨ k = 10
  · have c5b : (k == 8 || (k == 9 || k == 10)) = true := by simpa using c5
    refine ws_seq (f := u_law_packet_5) (ws_ifT (t5.trans (by rw [c5b])) ?_)
    refine ws_step (e := [some (sc ns), some (.obj t), some (.lst wordsL), some (.str (Str.ofString (kw k))), none, none, none, some (.obj s1.length), none, none, none]) (s1 := s1 ++ [.lst []]) (st_asg rfl) ?_
    generalize hj : s1.length = j
    have o2 : Own (At j (.lst []) :: Tw t (N + 1) :: R) (s1 ++ [.lst []]) := by
      subst hj
      exact o1.new _
    generalize s1 ++ [.lst []] = s2 at o2 ⊢
    obtain ⟨v, hv, s3, h3, o3⟩ := pick_n ns (R := At j (.lst []) :: R) (s := s2) (t := t) (N := N + 1) (l := [0, 1, 2, 9]) ((Own.pm o2 (by repeat first | exact Pm.rfl | (apply Pm.cons; repeat first | exact Tk.hd | apply Tk.tl) | apply Pm.skip))) (by omega) (by simp)
    have hv9 : v ≤ 9 := by simp at hv; omega
    have h3 : m_law_pick [sc ns, .obj t, .lst [.int 0, .int 1, .int 2, .int 9]] s2 = .ok (nD v) s3 := h3
    have e3 : (eOp (dAdd nwF) (eC (.int 1)) (eCall m_law_pick [eVar 0, eVar 1, eLst nwF [eC (.int 0), eC (.int 1), eC (.int 2), eC (.int 9)]])) [some (sc ns), some (.obj t), some (.lst wordsL), some (.str (Str.ofString (kw k))), none, none, none, some (.obj j), none, none, none] s2 = .ok (.int ((v + 1 : Nat) : Int)) s3 := by
      refine (op_ok (fa := eC (.int 1)) rfl ((call3_ok (fa := eVar 0) (fb := eVar 1) (fc := eLst nwF [eC (.int 0), eC (.int 1), eC (.int 2), eC (.int 9)]) rfl rfl rfl).trans h3)).trans ?_
      rw [dAdd_int]
      congr 2
      omega
    refine ws_seq (ws_range (n := v + 1) (s0 := s3) [8, 9, 10] (fun m xs z => ∃ (acc : List Ent) (x y u : Option Dt), xs = [x, y, u] ∧ acc.length = m ∧ (∀ e ∈ acc, e.Ok) ∧ Own (Tw t (N + 2 + 64 * m) :: At j (.lst (acc.map (entD k))) :: R) z) e3 (by omega) rfl ⟨[], none, none, none, rfl, rfl, (fun _ h => nomatch h), o3⟩ ?_ ?_)
    · rintro m xs z hm hx ⟨acc, x, y, u, rfl, hl, hok, o4⟩
      obtain ⟨e, y9, y10, z', he, h4, o5⟩ := ent_turn ns c5 (x2 := some (.lst wordsL)) (x8 := some (nD m)) (x9 := y) (x10 := u) (by omega) (by omega) o4
      refine ⟨_, rfl, ws_nx h4 ⟨[some (nD m), y9, y10], rfl, rfl, acc ++ [e], _, _, _, rfl, by rw [List.length_append, hl]; rfl, ?_, ?_⟩⟩
      · intro q hq
        rcases List.mem_append.mp hq with a | a
        · exact hok q a
        · rw [List.mem_singleton] at a; subst a; exact he
      · rw [show N + 2 + 64 * (m + 1) = N + 2 + 64 * m + 64 by omega]
        exact o5
    · rintro xs z hx ⟨acc, x, y, u, rfl, hl, hok, o4⟩
      dsimp only
      obtain ⟨i, s5, h5, hi, o5⟩ := ev_id ns (by omega) o4
      obtain ⟨p, pok, pd⟩ := some_pk c5 hi (acc := acc) (by omega) (by omega) hok
      refine ws_rt (d := p.d) (s1 := s5) (st_ret ?_) ⟨p, rfl, pok, ((Own.pm o5 (by repeat first | exact Pm.rfl | (apply Pm.cons; repeat first | exact Tk.hd | apply Tk.tl) | apply Pm.skip)) : Own (Tw t (N + 2 + 64 * (v + 1) + 2) :: R) s5).more (by omega)⟩
      rw [pd, ev_tup]
      unfold bnd
      rw [evs_cons]
      unfold bnd
      rw [show (eVar 3) (setS [some (sc ns), some (.obj t), some (.lst wordsL), some (.str (Str.ofString (kw k))), none, none, none, some (.obj j), none, none, none] [8, 9, 10] [x, y, u]) z = .ok (.str (Str.ofString (kw k))) z from rfl]
      dsimp only
      rw [evs_cons]
      unfold bnd
      rw [(call2_ok (fa := eVar 0) (fb := eVar 1) rfl rfl).trans h5]
      dsimp only
      rw [evs_cons]
      unfold bnd
      have g5 := ((Own.pm o5 (by repeat first | exact Pm.rfl | (apply Pm.cons; repeat first | exact Tk.hd | apply Tk.tl) | apply Pm.skip)) : Own (At j (.lst (acc.map (entD k))) :: R) s5).get
      rw [show (eUn dTuple (eVar 7)) (setS [some (sc ns), some (.obj t), some (.lst wordsL), some (.str (Str.ofString (kw k))), none, none, none, some (.obj j), none, none, none] [8, 9, 10] [x, y, u]) s5 = .ok (.tup (acc.map (entD k))) s5 from (un_ok (fa := eVar 7) rfl).trans (by unfold dTuple; rw [asQ_obj g5]; rfl)]
      rfl
  have c5b : (k == 8 || (k == 9 || k == 10)) = false := by
    cases hq : (k == 8 || (k == 9 || k == 10)) with
    | false => rfl
    | true => exact absurd (by simpa using hq) c5
  refine ws_step (f := u_law_packet_5) (st_ifF (s1 := s1) (t5.trans (by rw [c5b]))) ?_
  by_cases c2 : k = 2
  · subst c2
    obtain ⟨c, hc, s2, h2, o2⟩ := ev_draw ns (many := 2) o1 (by omega) (by decide)
    refine ws_out (f := u_law_packet_6) (d := (Pz.gre ((c : Int) == 0)).d) (s1 := s2) ?_ ⟨_, rfl, trivial, o2.more (by omega)⟩
    refine st_ifR (t_w rfl w2) ?_
    rw [gre_d, ev_tup]
    unfold bnd
    rw [evs_cons]
    unfold bnd
    rw [show (eC (.str (Str.ofString "greeted"))) [some (sc ns), some (.obj t), some (.lst wordsL), some (.str (Str.ofString (kw 2))), none, none, none, none, none, none, none] s1 = .ok (wS "greeted") s1 from rfl]
    dsimp only
    rw [evs_cons]
    unfold bnd
    rw [eq0 ((call3_ok (fa := eVar 0) (fb := eVar 1) (fc := eC (.int 2)) rfl rfl rfl).trans h2)]
    rfl
  have c2b : (k == 2) = false := by simpa using c2
  refine ws_step (f := u_law_packet_6) (st_ifF (s1 := s1) (t_w rfl (w2.trans c2b))) ?_
  have w14 : (Str.ofString (kw k) == Str.ofString "leave") = (k == 14) := by
    have : k = 12 ∨ k = 13 ∨ k = 14 := by omega
    rcases this with e | e | e <;> subst e <;> decide +kernel
  have nulok : (Pz.nul k).Ok := by show k = 12 ∨ k = 13 ∨ k = 14; omega
  by_cases c14 : k = 14
  · subst c14
    obtain ⟨c, hc, s2, h2, o2⟩ := ev_draw ns (many := 2) o1 (by omega) (by decide)
    have tt : (tAnd (tBl (eOp dEq (eVar 3) (eC (.str (Str.ofString "leave"))))) (tBl (eOp dEq (eCall m_law_draw [eVar 0, eVar 1, eC (.int 2)]) (eC (.int 0))))) [some (sc ns), some (.obj t), some (.lst wordsL), some (.str (Str.ofString (kw 14))), none, none, none, none, none, none, none] s1 = .ok ((c : Int) == 0) s2 := by
      rw [ev_and]
      unfold bnd
      rw [t_w rfl w14]
      exact tBl_ok (eq0 ((call3_ok (fa := eVar 0) (fb := eVar 1) (fc := eC (.int 2)) rfl rfl rfl).trans h2))
    by_cases hc0 : ((c : Int) == 0) = true
    · exact ws_out (f := u_law_packet_7) (d := (Pz.nul 14).d) (s1 := s2) (st_ifR (tt.trans (by rw [hc0])) rfl) ⟨_, rfl, nulok, o2.more (by omega)⟩
    · have hcf : ((c : Int) == 0) = false := by simpa using hc0
      refine ws_step (f := u_law_packet_7) (st_ifF (s1 := s2) (tt.trans (by rw [hcf]))) ?_
      refine ws_step (f := u_law_packet_8) (e := [some (sc ns), some (.obj t), some (.lst ansL), some (.str (Str.ofString (kw 14))), none, none, none, none, none, none, none]) (s1 := s2) (st_asg rfl) ?_
      obtain ⟨y, hy, s3, h3, o3⟩ := ev_pick ns (l := ansL) o2 (by omega) (by simp [ansL])
      obtain ⟨q, rfl, hq⟩ := ans_of hy
      obtain ⟨i, s4, h4, hi, o4⟩ := ev_id ns (by omega) o3
      refine ws_rt (f := u_law_packet_9) (d := (Pz.one q i).d) (s1 := s4) (st_ret ?_) ⟨_, rfl, ⟨hq, hi⟩, o4.more (by omega)⟩
      rw [ex_if (t_w rfl (w14.trans (by decide : ((14 : Nat) == 14) = true))), if_pos rfl, ev_tup]
      unfold bnd
      rw [evs_cons]
      unfold bnd
      rw [(call3_ok (fa := eVar 0) (fb := eVar 1) (fc := eVar 2) rfl rfl rfl).trans h3]
      dsimp only
      rw [evs_cons]
      unfold bnd
      rw [(call2_ok (fa := eVar 0) (fb := eVar 1) rfl rfl).trans h4]
      rfl
  · have c14b : (k == 14) = false := by simpa using c14
    have tt : (tAnd (tBl (eOp dEq (eVar 3) (eC (.str (Str.ofString "leave"))))) (tBl (eOp dEq (eCall m_law_draw [eVar 0, eVar 1, eC (.int 2)]) (eC (.int 0))))) [some (sc ns), some (.obj t), some (.lst wordsL), some (.str (Str.ofString (kw k))), none, none, none, none, none, none, none] s1 = .ok false s1 := by
      rw [ev_and]
      unfold bnd
      rw [t_w rfl (w14.trans c14b)]
      rfl
    refine ws_step (f := u_law_packet_7) (st_ifF (s1 := s1) tt) ?_
    refine ws_step (f := u_law_packet_8) (e := [some (sc ns), some (.obj t), some (.lst ansL), some (.str (Str.ofString (kw k))), none, none, none, none, none, none, none]) (s1 := s1) (st_asg rfl) ?_
    refine ws_rt (f := u_law_packet_9) (d := (Pz.nul k).d) (s1 := s1) (st_ret ?_) ⟨_, rfl, nulok, o1.more (by omega)⟩
    rw [ex_if (t_w rfl (w14.trans c14b)), if_neg (by decide)]
    rfl
end Tx
namespace Tx
open PySem L2 Pd
/-! ### packets that are none -/
theorem look_exc {d : Dt} {s : Sto} (h : m_look_whole [d] s = .exc 2 s ∨ m_look_whole [d] s = .exc 3 s) : m_look_packet [d] s = .exc 3 s := by
  unfold m_look_packet b_look_packet
  rw [fnOf]
  unfold sTryR
  rcases h with h | h
  · simp only [evR, Nat.reduceAdd, Nat.reduceSub, Int.reduceBEq, Int.reduceEq, Int.reduceLT, Int.reduceLE, Int.reduceNeg, Int.reduceAdd, Int.reduceSub, Int.reduceMul, Int.reduceToNat, Nat.reduceLT, Nat.reduceLeDiff, reduceIte, Int.reduceNe, Int.reduceBNe, String.reduceBEq, h, List.mem_cons]
  · simp only [evR, Nat.reduceAdd, Nat.reduceSub, Int.reduceBEq, Int.reduceEq, Int.reduceLT, Int.reduceLE, Int.reduceNeg, Int.reduceAdd, Int.reduceSub, Int.reduceMul, Int.reduceToNat, Nat.reduceLT, Nat.reduceLeDiff, reduceIte, Int.reduceNe, Int.reduceBNe, String.reduceBEq, h, List.mem_cons]
    simp only [ite_self]
@[irreducible] def longB : Str := repS (Str.ofString "x") 301
theorem longB_no : isBody longB.cps.toList = false := by unfold longB; decide +kernel
theorem hs_a : isHearer [97] = true := by decide
theorem hs_n : isHearer [] = false := by decide
theorem hs_A : isHearer [65] = false := by decide
theorem ws_a : isWish [97] = true := by decide
theorem ws_ha : isWish [35, 97] = false := by decide
theorem ws_n : isWish [] = false := by decide
theorem t_A : Str.ofString "A" = mkS [65] := by decide +kernel
theorem t_ha : Str.ofString "#a" = mkS [35, 97] := by decide +kernel
theorem t_ap : Str.ofString "a/+" = mkS [97, 47, 43] := by decide +kernel
theorem td_bad1 {s : Sto} {g : Int} {k : Bool} : m_look_tiding [.str (Str.ofString "a/+"), .str (Str.ofString "x"), .int g, .bl k] s = .exc 2 s := by
  rw [t_ap, t_x, ev_look_tiding, if_neg (by decide)]
theorem td_bad2 {s : Sto} {k : Bool} : m_look_tiding [.str (Str.ofString "a"), .str (Str.ofString "x"), .int 3, .bl k] s = .exc 2 s := by
  rw [t_a, t_x, ev_look_tiding, if_pos (by decide), if_neg (by decide)]
theorem td_bad3 {s : Sto} {k : Bool} : m_look_tiding [.str (Str.ofString "a"), .str longB, .int 1, .bl k] s = .exc 3 s := by
  rw [t_a, mkS_eq longB, ev_look_tiding, if_pos (by decide), if_pos (by decide), if_neg (by rw [longB_no]; decide)]
theorem td_bad4 {s : Sto} {g : Int} {k : Bool} : m_look_tiding [.str (Str.ofString "#"), .str (Str.ofString "x"), .int g, .bl k] s = .exc 2 s := by
  rw [t_hash, t_x, ev_look_tiding, if_neg (by decide)]
theorem td_bad5 {s : Sto} {g : Int} {k : Bool} : m_look_tiding [.str (Str.ofString ""), .str (Str.ofString ""), .int g, .bl k] s = .exc 2 s := by
  rw [t_nil, ev_look_tiding, if_neg (by decide)]
theorem td_ok {s : Sto} {g : Int} {k : Bool} (h : 0 ≤ g ∧ g ≤ 2) : m_look_tiding [.str (Str.ofString "a"), .str (Str.ofString "x"), .int g, .bl k] s = .ok .non s := by
  rw [t_a, t_x, ev_look_tiding, if_pos (by decide), if_pos h, if_pos (by decide)]
theorem td_ok0 {s : Sto} {k : Bool} : m_look_tiding [.str (Str.ofString "a"), .str (Str.ofString "x"), .int 0, .bl k] s = .ok .non s := td_ok (by decide)
theorem td_ok1 {s : Sto} {k : Bool} : m_look_tiding [.str (Str.ofString "a"), .str (Str.ofString "x"), .int 1, .bl k] s = .ok .non s := td_ok (by decide)
theorem dIn_gr {a : Int} {s : Sto} : dIn (.int a) (.tup [.int 0, .int 1, .int 2, .int 128]) s = .ok (.bl ([0, 1, 2, 128].contains a)) s := by
  rw [show [Dt.int 0, .int 1, .int 2, .int 128] = [0, 1, 2, 128].map Dt.int from rfl, dIn_tints]
theorem gr3 : ([0, 1, 2, 128] : List Int).contains 3 = false := by decide
theorem id0 : idOk 0 = false := by decide
theorem id1 : idOk 1 = true := by decide
theorem idm : idOk (-1) = false := by decide
theorem idb : idOk 65536 = false := by decide
theorem id3 : idOk 3 = true := by decide
theorem gr_3 {s : Sto} : m_look_grade [.int 3] s = .exc 2 s := by rw [ev_look_grade, if_neg (by decide)]
theorem gr_1 {s : Sto} : m_look_grade [.int 1] s = .ok .non s := by rw [ev_look_grade, if_pos (by decide)]
theorem lw_n {s : Sto} : m_look_wish [.str (Str.ofString "")] s = .exc 2 s := by rw [t_nil, ev_look_wish, ws_n]; rfl
theorem lw_a {s : Sto} : m_look_wish [.str (Str.ofString "a")] s = .ok .non s := by rw [t_a, ev_look_wish, ws_a]; rfl
theorem lw_ha {s : Sto} : m_look_wish [.str (Str.ofString "#a")] s = .exc 2 s := by rw [t_ha, ev_look_wish, ws_ha]; rfl
theorem lh_n {s : Sto} : m_look_hearer [.str (Str.ofString "")] s = .exc 2 s := by rw [t_nil, ev_look_hearer, hs_n]; rfl
theorem lh_a {s : Sto} : m_look_hearer [.str (Str.ofString "a")] s = .ok .non s := by rw [t_a, ev_look_hearer, hs_a]; rfl
theorem lh_A {s : Sto} : m_look_hearer [.str (Str.ofString "A")] s = .exc 2 s := by rw [t_A, ev_look_hearer, hs_A]; rfl
theorem bad_0 (s : Sto) : m_look_packet [.tup []] s = .exc 3 s := by
  refine look_exc (.inr ?_)
  unfold m_look_whole b_look_whole u_look_whole_1 u_look_whole_2 u_look_whole_3
  simp only [runR, Nat.reduceAdd, Nat.reduceSub, Int.reduceBEq, Int.reduceEq, Int.reduceLT, Int.reduceLE, Int.reduceNeg, Int.reduceAdd, Int.reduceSub, Int.reduceMul, Int.reduceToNat, Nat.reduceLT, Nat.reduceLeDiff, reduceIte, Int.reduceNe, Int.reduceBNe, String.reduceBEq, eKget2, List.lookup_cons, List.lookup_nil, Option.getD_some, Option.getD_none, Option.map_none, dGt, dLe, ev_must, ev_is_id, id0, id1, idm, idb, id3, dIn_tf, td_bad1, td_bad2, td_bad3, td_bad4, td_bad5, td_ok0, td_ok1, dIn_gr, gr3, gr_3, gr_1, lw_n, lw_a, lw_ha, lh_n, lh_a, lh_A, forGo]
theorem bad_1 (s : Sto) : m_look_packet [.tup [.str (Str.ofString "none")]] s = .exc 3 s := by
  refine look_exc (.inr ?_)
  unfold m_look_whole b_look_whole u_look_whole_1 u_look_whole_2 u_look_whole_3
  simp only [runR, Nat.reduceAdd, Nat.reduceSub, Int.reduceBEq, Int.reduceEq, Int.reduceLT, Int.reduceLE, Int.reduceNeg, Int.reduceAdd, Int.reduceSub, Int.reduceMul, Int.reduceToNat, Nat.reduceLT, Nat.reduceLeDiff, reduceIte, Int.reduceNe, Int.reduceBNe, String.reduceBEq, eKget2, List.lookup_cons, List.lookup_nil, Option.getD_some, Option.getD_none, Option.map_none, dGt, dLe, ev_must, ev_is_id, id0, id1, idm, idb, id3, dIn_tf, td_bad1, td_bad2, td_bad3, td_bad4, td_bad5, td_ok0, td_ok1, dIn_gr, gr3, gr_3, gr_1, lw_n, lw_a, lw_ha, lh_n, lh_a, lh_A, forGo]
theorem bad_2 (s : Sto) : m_look_packet [.tup [.str (Str.ofString "ping"), .int 1]] s = .exc 3 s := by
  refine look_exc (.inr ?_)
  unfold m_look_whole b_look_whole u_look_whole_1 u_look_whole_2 u_look_whole_3
  simp only [runR, Nat.reduceAdd, Nat.reduceSub, Int.reduceBEq, Int.reduceEq, Int.reduceLT, Int.reduceLE, Int.reduceNeg, Int.reduceAdd, Int.reduceSub, Int.reduceMul, Int.reduceToNat, Nat.reduceLT, Nat.reduceLeDiff, reduceIte, Int.reduceNe, Int.reduceBNe, String.reduceBEq, eKget2, List.lookup_cons, List.lookup_nil, Option.getD_some, Option.getD_none, Option.map_none, dGt, dLe, ev_must, ev_is_id, id0, id1, idm, idb, id3, dIn_tf, td_bad1, td_bad2, td_bad3, td_bad4, td_bad5, td_ok0, td_ok1, dIn_gr, gr3, gr_3, gr_1, lw_n, lw_a, lw_ha, lh_n, lh_a, lh_A, forGo]
theorem bad_3 (s : Sto) : m_look_packet [.tup [.str (Str.ofString "got"), .int 0]] s = .exc 3 s := by
  refine look_exc (.inr ?_)
  unfold m_look_whole b_look_whole u_look_whole_1 u_look_whole_2 u_look_whole_3
  simp only [runR, Nat.reduceAdd, Nat.reduceSub, Int.reduceBEq, Int.reduceEq, Int.reduceLT, Int.reduceLE, Int.reduceNeg, Int.reduceAdd, Int.reduceSub, Int.reduceMul, Int.reduceToNat, Nat.reduceLT, Nat.reduceLeDiff, reduceIte, Int.reduceNe, Int.reduceBNe, String.reduceBEq, eKget2, List.lookup_cons, List.lookup_nil, Option.getD_some, Option.getD_none, Option.map_none, dGt, dLe, ev_must, ev_is_id, id0, id1, idm, idb, id3, dIn_tf, td_bad1, td_bad2, td_bad3, td_bad4, td_bad5, td_ok0, td_ok1, dIn_gr, gr3, gr_3, gr_1, lw_n, lw_a, lw_ha, lh_n, lh_a, lh_A, forGo]
theorem bad_4 (s : Sto) : m_look_packet [.tup [.str (Str.ofString "done"), .int 65536]] s = .exc 3 s := by
  refine look_exc (.inr ?_)
  unfold m_look_whole b_look_whole u_look_whole_1 u_look_whole_2 u_look_whole_3
  simp only [runR, Nat.reduceAdd, Nat.reduceSub, Int.reduceBEq, Int.reduceEq, Int.reduceLT, Int.reduceLE, Int.reduceNeg, Int.reduceAdd, Int.reduceSub, Int.reduceMul, Int.reduceToNat, Nat.reduceLT, Nat.reduceLeDiff, reduceIte, Int.reduceNe, Int.reduceBNe, String.reduceBEq, eKget2, List.lookup_cons, List.lookup_nil, Option.getD_some, Option.getD_none, Option.map_none, dGt, dLe, ev_must, ev_is_id, id0, id1, idm, idb, id3, dIn_tf, td_bad1, td_bad2, td_bad3, td_bad4, td_bad5, td_ok0, td_ok1, dIn_gr, gr3, gr_3, gr_1, lw_n, lw_a, lw_ha, lh_n, lh_a, lh_A, forGo]
theorem bad_5 (s : Sto) : m_look_packet [.tup [.str (Str.ofString "say"), .str (Str.ofString "a"), .str (Str.ofString "x"), .int 0, .bl true, .bl false, .int 1]] s = .exc 3 s := by
  refine look_exc (.inr ?_)
  have e : m_look_say [.tup [.str (Str.ofString "say"), .str (Str.ofString "a"), .str (Str.ofString "x"), .int 0, .bl true, .bl false, .int 1]] s = .exc 3 s := by
    unfold m_look_say b_look_say
    simp only [runR, Nat.reduceAdd, Nat.reduceSub, Int.reduceBEq, Int.reduceEq, Int.reduceLT, Int.reduceLE, Int.reduceNeg, Int.reduceAdd, Int.reduceSub, Int.reduceMul, Int.reduceToNat, Nat.reduceLT, Nat.reduceLeDiff, reduceIte, Int.reduceNe, Int.reduceBNe, String.reduceBEq, eKget2, List.lookup_cons, List.lookup_nil, Option.getD_some, Option.getD_none, Option.map_none, dGt, dLe, ev_must, ev_is_id, id0, id1, idm, idb, id3, dIn_tf, td_bad1, td_bad2, td_bad3, td_bad4, td_bad5, td_ok0, td_ok1, dIn_gr, gr3, gr_3, gr_1, lw_n, lw_a, lw_ha, lh_n, lh_a, lh_A, forGo]
  unfold m_look_whole b_look_whole u_look_whole_1 u_look_whole_2 u_look_whole_3
  simp only [runR, Nat.reduceAdd, Nat.reduceSub, Int.reduceBEq, Int.reduceEq, Int.reduceLT, Int.reduceLE, Int.reduceNeg, Int.reduceAdd, Int.reduceSub, Int.reduceMul, Int.reduceToNat, Nat.reduceLT, Nat.reduceLeDiff, reduceIte, Int.reduceNe, Int.reduceBNe, String.reduceBEq, eKget2, List.lookup_cons, List.lookup_nil, Option.getD_some, Option.getD_none, Option.map_none, dGt, dLe, ev_must, ev_is_id, id0, id1, idm, idb, id3, dIn_tf, td_bad1, td_bad2, td_bad3, td_bad4, td_bad5, td_ok0, td_ok1, dIn_gr, gr3, gr_3, gr_1, lw_n, lw_a, lw_ha, lh_n, lh_a, lh_A, forGo, e]
theorem bad_6 (s : Sto) : m_look_packet [.tup [.str (Str.ofString "bad")]] s = .exc 3 s := by
  refine look_exc (.inr ?_)
  unfold m_look_whole b_look_whole u_look_whole_1 u_look_whole_2 u_look_whole_3
  simp only [runR, Nat.reduceAdd, Nat.reduceSub, Int.reduceBEq, Int.reduceEq, Int.reduceLT, Int.reduceLE, Int.reduceNeg, Int.reduceAdd, Int.reduceSub, Int.reduceMul, Int.reduceToNat, Nat.reduceLT, Nat.reduceLeDiff, reduceIte, Int.reduceNe, Int.reduceBNe, String.reduceBEq, eKget2, List.lookup_cons, List.lookup_nil, Option.getD_some, Option.getD_none, Option.map_none, dGt, dLe, ev_must, ev_is_id, id0, id1, idm, idb, id3, dIn_tf, td_bad1, td_bad2, td_bad3, td_bad4, td_bad5, td_ok0, td_ok1, dIn_gr, gr3, gr_3, gr_1, lw_n, lw_a, lw_ha, lh_n, lh_a, lh_A, forGo]
theorem bad_7 (s : Sto) : m_look_packet [.tup [.str (Str.ofString "say"), .str (Str.ofString "a"), .str (Str.ofString "x"), .int 1, .bl true, .bl false, .int 0]] s = .exc 3 s := by
  refine look_exc (.inr ?_)
  have e : m_look_say [.tup [.str (Str.ofString "say"), .str (Str.ofString "a"), .str (Str.ofString "x"), .int 1, .bl true, .bl false, .int 0]] s = .exc 3 s := by
    unfold m_look_say b_look_say
    simp only [runR, Nat.reduceAdd, Nat.reduceSub, Int.reduceBEq, Int.reduceEq, Int.reduceLT, Int.reduceLE, Int.reduceNeg, Int.reduceAdd, Int.reduceSub, Int.reduceMul, Int.reduceToNat, Nat.reduceLT, Nat.reduceLeDiff, reduceIte, Int.reduceNe, Int.reduceBNe, String.reduceBEq, eKget2, List.lookup_cons, List.lookup_nil, Option.getD_some, Option.getD_none, Option.map_none, dGt, dLe, ev_must, ev_is_id, id0, id1, idm, idb, id3, dIn_tf, td_bad1, td_bad2, td_bad3, td_bad4, td_bad5, td_ok0, td_ok1, dIn_gr, gr3, gr_3, gr_1, lw_n, lw_a, lw_ha, lh_n, lh_a, lh_A, forGo]
  unfold m_look_whole b_look_whole u_look_whole_1 u_look_whole_2 u_look_whole_3
  simp only [runR, Nat.reduceAdd, Nat.reduceSub, Int.reduceBEq, Int.reduceEq, Int.reduceLT, Int.reduceLE, Int.reduceNeg, Int.reduceAdd, Int.reduceSub, Int.reduceMul, Int.reduceToNat, Nat.reduceLT, Nat.reduceLeDiff, reduceIte, Int.reduceNe, Int.reduceBNe, String.reduceBEq, eKget2, List.lookup_cons, List.lookup_nil, Option.getD_some, Option.getD_none, Option.map_none, dGt, dLe, ev_must, ev_is_id, id0, id1, idm, idb, id3, dIn_tf, td_bad1, td_bad2, td_bad3, td_bad4, td_bad5, td_ok0, td_ok1, dIn_gr, gr3, gr_3, gr_1, lw_n, lw_a, lw_ha, lh_n, lh_a, lh_A, forGo, e]
theorem bad_8 (s : Sto) : m_look_packet [.tup [.str (Str.ofString "say"), .str (Str.ofString "a"), .str (Str.ofString "x"), .int 0, .bl false, .bl true, .int 0]] s = .exc 3 s := by
  refine look_exc (.inr ?_)
  have e : m_look_say [.tup [.str (Str.ofString "say"), .str (Str.ofString "a"), .str (Str.ofString "x"), .int 0, .bl false, .bl true, .int 0]] s = .exc 3 s := by
    unfold m_look_say b_look_say
    simp only [runR, Nat.reduceAdd, Nat.reduceSub, Int.reduceBEq, Int.reduceEq, Int.reduceLT, Int.reduceLE, Int.reduceNeg, Int.reduceAdd, Int.reduceSub, Int.reduceMul, Int.reduceToNat, Nat.reduceLT, Nat.reduceLeDiff, reduceIte, Int.reduceNe, Int.reduceBNe, String.reduceBEq, eKget2, List.lookup_cons, List.lookup_nil, Option.getD_some, Option.getD_none, Option.map_none, dGt, dLe, ev_must, ev_is_id, id0, id1, idm, idb, id3, dIn_tf, td_bad1, td_bad2, td_bad3, td_bad4, td_bad5, td_ok0, td_ok1, dIn_gr, gr3, gr_3, gr_1, lw_n, lw_a, lw_ha, lh_n, lh_a, lh_A, forGo]
  unfold m_look_whole b_look_whole u_look_whole_1 u_look_whole_2 u_look_whole_3
  simp only [runR, Nat.reduceAdd, Nat.reduceSub, Int.reduceBEq, Int.reduceEq, Int.reduceLT, Int.reduceLE, Int.reduceNeg, Int.reduceAdd, Int.reduceSub, Int.reduceMul, Int.reduceToNat, Nat.reduceLT, Nat.reduceLeDiff, reduceIte, Int.reduceNe, Int.reduceBNe, String.reduceBEq, eKget2, List.lookup_cons, List.lookup_nil, Option.getD_some, Option.getD_none, Option.map_none, dGt, dLe, ev_must, ev_is_id, id0, id1, idm, idb, id3, dIn_tf, td_bad1, td_bad2, td_bad3, td_bad4, td_bad5, td_ok0, td_ok1, dIn_gr, gr3, gr_3, gr_1, lw_n, lw_a, lw_ha, lh_n, lh_a, lh_A, forGo, e]
theorem bad_9 (s : Sto) : m_look_packet [.tup [.str (Str.ofString "got")]] s = .exc 3 s := by
  refine look_exc (.inr ?_)
  unfold m_look_whole b_look_whole u_look_whole_1 u_look_whole_2 u_look_whole_3
  simp only [runR, Nat.reduceAdd, Nat.reduceSub, Int.reduceBEq, Int.reduceEq, Int.reduceLT, Int.reduceLE, Int.reduceNeg, Int.reduceAdd, Int.reduceSub, Int.reduceMul, Int.reduceToNat, Nat.reduceLT, Nat.reduceLeDiff, reduceIte, Int.reduceNe, Int.reduceBNe, String.reduceBEq, eKget2, List.lookup_cons, List.lookup_nil, Option.getD_some, Option.getD_none, Option.map_none, dGt, dLe, ev_must, ev_is_id, id0, id1, idm, idb, id3, dIn_tf, td_bad1, td_bad2, td_bad3, td_bad4, td_bad5, td_ok0, td_ok1, dIn_gr, gr3, gr_3, gr_1, lw_n, lw_a, lw_ha, lh_n, lh_a, lh_A, forGo]
theorem bad_10 (s : Sto) : m_look_packet [.tup [.str (Str.ofString "say"), .str (Str.ofString "a/+"), .str (Str.ofString "x"), .int 1, .bl true, .bl false, .int 3]] s = .exc 3 s := by
  refine look_exc (.inl ?_)
  have e : m_look_say [.tup [.str (Str.ofString "say"), .str (Str.ofString "a/+"), .str (Str.ofString "x"), .int 1, .bl true, .bl false, .int 3]] s = .exc 2 s := by
    unfold m_look_say b_look_say
    simp only [runR, Nat.reduceAdd, Nat.reduceSub, Int.reduceBEq, Int.reduceEq, Int.reduceLT, Int.reduceLE, Int.reduceNeg, Int.reduceAdd, Int.reduceSub, Int.reduceMul, Int.reduceToNat, Nat.reduceLT, Nat.reduceLeDiff, reduceIte, Int.reduceNe, Int.reduceBNe, String.reduceBEq, eKget2, List.lookup_cons, List.lookup_nil, Option.getD_some, Option.getD_none, Option.map_none, dGt, dLe, ev_must, ev_is_id, id0, id1, idm, idb, id3, dIn_tf, td_bad1, td_bad2, td_bad3, td_bad4, td_bad5, td_ok0, td_ok1, dIn_gr, gr3, gr_3, gr_1, lw_n, lw_a, lw_ha, lh_n, lh_a, lh_A, forGo]
  unfold m_look_whole b_look_whole u_look_whole_1 u_look_whole_2 u_look_whole_3
  simp only [runR, Nat.reduceAdd, Nat.reduceSub, Int.reduceBEq, Int.reduceEq, Int.reduceLT, Int.reduceLE, Int.reduceNeg, Int.reduceAdd, Int.reduceSub, Int.reduceMul, Int.reduceToNat, Nat.reduceLT, Nat.reduceLeDiff, reduceIte, Int.reduceNe, Int.reduceBNe, String.reduceBEq, eKget2, List.lookup_cons, List.lookup_nil, Option.getD_some, Option.getD_none, Option.map_none, dGt, dLe, ev_must, ev_is_id, id0, id1, idm, idb, id3, dIn_tf, td_bad1, td_bad2, td_bad3, td_bad4, td_bad5, td_ok0, td_ok1, dIn_gr, gr3, gr_3, gr_1, lw_n, lw_a, lw_ha, lh_n, lh_a, lh_A, forGo, e]
theorem bad_11 (s : Sto) : m_look_packet [.tup [.str (Str.ofString "say"), .str (Str.ofString "a"), .str (Str.ofString "x"), .int 3, .bl true, .bl false, .int 3]] s = .exc 3 s := by
  refine look_exc (.inl ?_)
  have e : m_look_say [.tup [.str (Str.ofString "say"), .str (Str.ofString "a"), .str (Str.ofString "x"), .int 3, .bl true, .bl false, .int 3]] s = .exc 2 s := by
    unfold m_look_say b_look_say
    simp only [runR, Nat.reduceAdd, Nat.reduceSub, Int.reduceBEq, Int.reduceEq, Int.reduceLT, Int.reduceLE, Int.reduceNeg, Int.reduceAdd, Int.reduceSub, Int.reduceMul, Int.reduceToNat, Nat.reduceLT, Nat.reduceLeDiff, reduceIte, Int.reduceNe, Int.reduceBNe, String.reduceBEq, eKget2, List.lookup_cons, List.lookup_nil, Option.getD_some, Option.getD_none, Option.map_none, dGt, dLe, ev_must, ev_is_id, id0, id1, idm, idb, id3, dIn_tf, td_bad1, td_bad2, td_bad3, td_bad4, td_bad5, td_ok0, td_ok1, dIn_gr, gr3, gr_3, gr_1, lw_n, lw_a, lw_ha, lh_n, lh_a, lh_A, forGo]
  unfold m_look_whole b_look_whole u_look_whole_1 u_look_whole_2 u_look_whole_3
  simp only [runR, Nat.reduceAdd, Nat.reduceSub, Int.reduceBEq, Int.reduceEq, Int.reduceLT, Int.reduceLE, Int.reduceNeg, Int.reduceAdd, Int.reduceSub, Int.reduceMul, Int.reduceToNat, Nat.reduceLT, Nat.reduceLeDiff, reduceIte, Int.reduceNe, Int.reduceBNe, String.reduceBEq, eKget2, List.lookup_cons, List.lookup_nil, Option.getD_some, Option.getD_none, Option.map_none, dGt, dLe, ev_must, ev_is_id, id0, id1, idm, idb, id3, dIn_tf, td_bad1, td_bad2, td_bad3, td_bad4, td_bad5, td_ok0, td_ok1, dIn_gr, gr3, gr_3, gr_1, lw_n, lw_a, lw_ha, lh_n, lh_a, lh_A, forGo, e]
theorem bad_12 (s : Sto) : m_look_packet [.tup [.str (Str.ofString "say"), .str (Str.ofString "a"), .str longB, .int 1, .bl true, .bl false, .int 3]] s = .exc 3 s := by
  refine look_exc (.inr ?_)
  have e : m_look_say [.tup [.str (Str.ofString "say"), .str (Str.ofString "a"), .str longB, .int 1, .bl true, .bl false, .int 3]] s = .exc 3 s := by
    unfold m_look_say b_look_say
    simp only [runR, Nat.reduceAdd, Nat.reduceSub, Int.reduceBEq, Int.reduceEq, Int.reduceLT, Int.reduceLE, Int.reduceNeg, Int.reduceAdd, Int.reduceSub, Int.reduceMul, Int.reduceToNat, Nat.reduceLT, Nat.reduceLeDiff, reduceIte, Int.reduceNe, Int.reduceBNe, String.reduceBEq, eKget2, List.lookup_cons, List.lookup_nil, Option.getD_some, Option.getD_none, Option.map_none, dGt, dLe, ev_must, ev_is_id, id0, id1, idm, idb, id3, dIn_tf, td_bad1, td_bad2, td_bad3, td_bad4, td_bad5, td_ok0, td_ok1, dIn_gr, gr3, gr_3, gr_1, lw_n, lw_a, lw_ha, lh_n, lh_a, lh_A, forGo]
  unfold m_look_whole b_look_whole u_look_whole_1 u_look_whole_2 u_look_whole_3
  simp only [runR, Nat.reduceAdd, Nat.reduceSub, Int.reduceBEq, Int.reduceEq, Int.reduceLT, Int.reduceLE, Int.reduceNeg, Int.reduceAdd, Int.reduceSub, Int.reduceMul, Int.reduceToNat, Nat.reduceLT, Nat.reduceLeDiff, reduceIte, Int.reduceNe, Int.reduceBNe, String.reduceBEq, eKget2, List.lookup_cons, List.lookup_nil, Option.getD_some, Option.getD_none, Option.map_none, dGt, dLe, ev_must, ev_is_id, id0, id1, idm, idb, id3, dIn_tf, td_bad1, td_bad2, td_bad3, td_bad4, td_bad5, td_ok0, td_ok1, dIn_gr, gr3, gr_3, gr_1, lw_n, lw_a, lw_ha, lh_n, lh_a, lh_A, forGo, e]
theorem bad_13 (s : Sto) : m_look_packet [.tup [.str (Str.ofString "connect"), .str (Str.ofString ""), .bl true, .non]] s = .exc 3 s := by
  refine look_exc (.inl ?_)
  unfold m_look_whole b_look_whole u_look_whole_1 u_look_whole_2 u_look_whole_3
  simp only [runR, Nat.reduceAdd, Nat.reduceSub, Int.reduceBEq, Int.reduceEq, Int.reduceLT, Int.reduceLE, Int.reduceNeg, Int.reduceAdd, Int.reduceSub, Int.reduceMul, Int.reduceToNat, Nat.reduceLT, Nat.reduceLeDiff, reduceIte, Int.reduceNe, Int.reduceBNe, String.reduceBEq, eKget2, List.lookup_cons, List.lookup_nil, Option.getD_some, Option.getD_none, Option.map_none, dGt, dLe, ev_must, ev_is_id, id0, id1, idm, idb, id3, dIn_tf, td_bad1, td_bad2, td_bad3, td_bad4, td_bad5, td_ok0, td_ok1, dIn_gr, gr3, gr_3, gr_1, lw_n, lw_a, lw_ha, lh_n, lh_a, lh_A, forGo]
theorem bad_14 (s : Sto) : m_look_packet [.tup [.str (Str.ofString "hear"), .int 1, .tup []]] s = .exc 3 s := by
  refine look_exc (.inr ?_)
  have e : m_look_some [.tup [.str (Str.ofString "hear"), .int 1, .tup []]] s = .exc 3 s := by
    unfold m_look_some b_look_some u_look_some_1 u_look_some_2 l_look_some_1
    simp only [runR, Nat.reduceAdd, Nat.reduceSub, Int.reduceBEq, Int.reduceEq, Int.reduceLT, Int.reduceLE, Int.reduceNeg, Int.reduceAdd, Int.reduceSub, Int.reduceMul, Int.reduceToNat, Nat.reduceLT, Nat.reduceLeDiff, reduceIte, Int.reduceNe, Int.reduceBNe, String.reduceBEq, eKget2, List.lookup_cons, List.lookup_nil, Option.getD_some, Option.getD_none, Option.map_none, dGt, dLe, ev_must, ev_is_id, id0, id1, idm, idb, id3, dIn_tf, td_bad1, td_bad2, td_bad3, td_bad4, td_bad5, td_ok0, td_ok1, dIn_gr, gr3, gr_3, gr_1, lw_n, lw_a, lw_ha, lh_n, lh_a, lh_A, forGo, List.replicate_succ, List.replicate_zero, List.flatten_cons, List.flatten_nil]
  unfold m_look_whole b_look_whole u_look_whole_1 u_look_whole_2 u_look_whole_3
  simp only [runR, Nat.reduceAdd, Nat.reduceSub, Int.reduceBEq, Int.reduceEq, Int.reduceLT, Int.reduceLE, Int.reduceNeg, Int.reduceAdd, Int.reduceSub, Int.reduceMul, Int.reduceToNat, Nat.reduceLT, Nat.reduceLeDiff, reduceIte, Int.reduceNe, Int.reduceBNe, String.reduceBEq, eKget2, List.lookup_cons, List.lookup_nil, Option.getD_some, Option.getD_none, Option.map_none, dGt, dLe, ev_must, ev_is_id, id0, id1, idm, idb, id3, dIn_tf, td_bad1, td_bad2, td_bad3, td_bad4, td_bad5, td_ok0, td_ok1, dIn_gr, gr3, gr_3, gr_1, lw_n, lw_a, lw_ha, lh_n, lh_a, lh_A, forGo, e]
theorem bad_15 (s : Sto) : m_look_packet [.tup [.str (Str.ofString "connect"), .str (Str.ofString "a"), .bl true, .tup [.str (Str.ofString "a"), .str (Str.ofString "x"), .int 1]]] s = .exc 3 s := by
  refine look_exc (.inr ?_)
  unfold m_look_whole b_look_whole u_look_whole_1 u_look_whole_2 u_look_whole_3
  simp only [runR, Nat.reduceAdd, Nat.reduceSub, Int.reduceBEq, Int.reduceEq, Int.reduceLT, Int.reduceLE, Int.reduceNeg, Int.reduceAdd, Int.reduceSub, Int.reduceMul, Int.reduceToNat, Nat.reduceLT, Nat.reduceLeDiff, reduceIte, Int.reduceNe, Int.reduceBNe, String.reduceBEq, eKget2, List.lookup_cons, List.lookup_nil, Option.getD_some, Option.getD_none, Option.map_none, dGt, dLe, ev_must, ev_is_id, id0, id1, idm, idb, id3, dIn_tf, td_bad1, td_bad2, td_bad3, td_bad4, td_bad5, td_ok0, td_ok1, dIn_gr, gr3, gr_3, gr_1, lw_n, lw_a, lw_ha, lh_n, lh_a, lh_A, forGo]
theorem bad_16 (s : Sto) : m_look_packet [.tup [.str (Str.ofString "connect"), .str (Str.ofString "a"), .bl true, .tup [.str (Str.ofString "#"), .str (Str.ofString "x"), .int 1, .bl true]]] s = .exc 3 s := by
  refine look_exc (.inl ?_)
  unfold m_look_whole b_look_whole u_look_whole_1 u_look_whole_2 u_look_whole_3
  simp only [runR, Nat.reduceAdd, Nat.reduceSub, Int.reduceBEq, Int.reduceEq, Int.reduceLT, Int.reduceLE, Int.reduceNeg, Int.reduceAdd, Int.reduceSub, Int.reduceMul, Int.reduceToNat, Nat.reduceLT, Nat.reduceLeDiff, reduceIte, Int.reduceNe, Int.reduceBNe, String.reduceBEq, eKget2, List.lookup_cons, List.lookup_nil, Option.getD_some, Option.getD_none, Option.map_none, dGt, dLe, ev_must, ev_is_id, id0, id1, idm, idb, id3, dIn_tf, td_bad1, td_bad2, td_bad3, td_bad4, td_bad5, td_ok0, td_ok1, dIn_gr, gr3, gr_3, gr_1, lw_n, lw_a, lw_ha, lh_n, lh_a, lh_A, forGo]
theorem bad_17 (s : Sto) : m_look_packet [.tup [.str (Str.ofString "hear"), .int 1, .tup [.tup [.str (Str.ofString "a"), .int 3]]]] s = .exc 3 s := by
  refine look_exc (.inl ?_)
  have e : m_look_some [.tup [.str (Str.ofString "hear"), .int 1, .tup [.tup [.str (Str.ofString "a"), .int 3]]]] s = .exc 2 s := by
    unfold m_look_some b_look_some u_look_some_1 u_look_some_2 l_look_some_1
    simp only [runR, Nat.reduceAdd, Nat.reduceSub, Int.reduceBEq, Int.reduceEq, Int.reduceLT, Int.reduceLE, Int.reduceNeg, Int.reduceAdd, Int.reduceSub, Int.reduceMul, Int.reduceToNat, Nat.reduceLT, Nat.reduceLeDiff, reduceIte, Int.reduceNe, Int.reduceBNe, String.reduceBEq, eKget2, List.lookup_cons, List.lookup_nil, Option.getD_some, Option.getD_none, Option.map_none, dGt, dLe, ev_must, ev_is_id, id0, id1, idm, idb, id3, dIn_tf, td_bad1, td_bad2, td_bad3, td_bad4, td_bad5, td_ok0, td_ok1, dIn_gr, gr3, gr_3, gr_1, lw_n, lw_a, lw_ha, lh_n, lh_a, lh_A, forGo, List.replicate_succ, List.replicate_zero, List.flatten_cons, List.flatten_nil]
  unfold m_look_whole b_look_whole u_look_whole_1 u_look_whole_2 u_look_whole_3
  simp only [runR, Nat.reduceAdd, Nat.reduceSub, Int.reduceBEq, Int.reduceEq, Int.reduceLT, Int.reduceLE, Int.reduceNeg, Int.reduceAdd, Int.reduceSub, Int.reduceMul, Int.reduceToNat, Nat.reduceLT, Nat.reduceLeDiff, reduceIte, Int.reduceNe, Int.reduceBNe, String.reduceBEq, eKget2, List.lookup_cons, List.lookup_nil, Option.getD_some, Option.getD_none, Option.map_none, dGt, dLe, ev_must, ev_is_id, id0, id1, idm, idb, id3, dIn_tf, td_bad1, td_bad2, td_bad3, td_bad4, td_bad5, td_ok0, td_ok1, dIn_gr, gr3, gr_3, gr_1, lw_n, lw_a, lw_ha, lh_n, lh_a, lh_A, forGo, e]
theorem bad_18 (s : Sto) : m_look_packet [.tup [.str (Str.ofString "hear"), .int 1, .tup [.tup [.str (Str.ofString "a"), .int 1, .int 1]]]] s = .exc 3 s := by
  refine look_exc (.inr ?_)
  have e : m_look_some [.tup [.str (Str.ofString "hear"), .int 1, .tup [.tup [.str (Str.ofString "a"), .int 1, .int 1]]]] s = .exc 3 s := by
    unfold m_look_some b_look_some u_look_some_1 u_look_some_2 l_look_some_1
    simp only [runR, Nat.reduceAdd, Nat.reduceSub, Int.reduceBEq, Int.reduceEq, Int.reduceLT, Int.reduceLE, Int.reduceNeg, Int.reduceAdd, Int.reduceSub, Int.reduceMul, Int.reduceToNat, Nat.reduceLT, Nat.reduceLeDiff, reduceIte, Int.reduceNe, Int.reduceBNe, String.reduceBEq, eKget2, List.lookup_cons, List.lookup_nil, Option.getD_some, Option.getD_none, Option.map_none, dGt, dLe, ev_must, ev_is_id, id0, id1, idm, idb, id3, dIn_tf, td_bad1, td_bad2, td_bad3, td_bad4, td_bad5, td_ok0, td_ok1, dIn_gr, gr3, gr_3, gr_1, lw_n, lw_a, lw_ha, lh_n, lh_a, lh_A, forGo, List.replicate_succ, List.replicate_zero, List.flatten_cons, List.flatten_nil]
  unfold m_look_whole b_look_whole u_look_whole_1 u_look_whole_2 u_look_whole_3
  simp only [runR, Nat.reduceAdd, Nat.reduceSub, Int.reduceBEq, Int.reduceEq, Int.reduceLT, Int.reduceLE, Int.reduceNeg, Int.reduceAdd, Int.reduceSub, Int.reduceMul, Int.reduceToNat, Nat.reduceLT, Nat.reduceLeDiff, reduceIte, Int.reduceNe, Int.reduceBNe, String.reduceBEq, eKget2, List.lookup_cons, List.lookup_nil, Option.getD_some, Option.getD_none, Option.map_none, dGt, dLe, ev_must, ev_is_id, id0, id1, idm, idb, id3, dIn_tf, td_bad1, td_bad2, td_bad3, td_bad4, td_bad5, td_ok0, td_ok1, dIn_gr, gr3, gr_3, gr_1, lw_n, lw_a, lw_ha, lh_n, lh_a, lh_A, forGo, e]
theorem bad_19 (s : Sto) : m_look_packet [.tup [.str (Str.ofString "hear"), .int 1, .tup [.tup [.str (Str.ofString "#a"), .int 1]]]] s = .exc 3 s := by
  refine look_exc (.inl ?_)
  have e : m_look_some [.tup [.str (Str.ofString "hear"), .int 1, .tup [.tup [.str (Str.ofString "#a"), .int 1]]]] s = .exc 2 s := by
    unfold m_look_some b_look_some u_look_some_1 u_look_some_2 l_look_some_1
    simp only [runR, Nat.reduceAdd, Nat.reduceSub, Int.reduceBEq, Int.reduceEq, Int.reduceLT, Int.reduceLE, Int.reduceNeg, Int.reduceAdd, Int.reduceSub, Int.reduceMul, Int.reduceToNat, Nat.reduceLT, Nat.reduceLeDiff, reduceIte, Int.reduceNe, Int.reduceBNe, String.reduceBEq, eKget2, List.lookup_cons, List.lookup_nil, Option.getD_some, Option.getD_none, Option.map_none, dGt, dLe, ev_must, ev_is_id, id0, id1, idm, idb, id3, dIn_tf, td_bad1, td_bad2, td_bad3, td_bad4, td_bad5, td_ok0, td_ok1, dIn_gr, gr3, gr_3, gr_1, lw_n, lw_a, lw_ha, lh_n, lh_a, lh_A, forGo, List.replicate_succ, List.replicate_zero, List.flatten_cons, List.flatten_nil]
  unfold m_look_whole b_look_whole u_look_whole_1 u_look_whole_2 u_look_whole_3
  simp only [runR, Nat.reduceAdd, Nat.reduceSub, Int.reduceBEq, Int.reduceEq, Int.reduceLT, Int.reduceLE, Int.reduceNeg, Int.reduceAdd, Int.reduceSub, Int.reduceMul, Int.reduceToNat, Nat.reduceLT, Nat.reduceLeDiff, reduceIte, Int.reduceNe, Int.reduceBNe, String.reduceBEq, eKget2, List.lookup_cons, List.lookup_nil, Option.getD_some, Option.getD_none, Option.map_none, dGt, dLe, ev_must, ev_is_id, id0, id1, idm, idb, id3, dIn_tf, td_bad1, td_bad2, td_bad3, td_bad4, td_bad5, td_ok0, td_ok1, dIn_gr, gr3, gr_3, gr_1, lw_n, lw_a, lw_ha, lh_n, lh_a, lh_A, forGo, e]
theorem bad_20 (s : Sto) : m_look_packet [.tup [.str (Str.ofString "drop"), .int 1, .tup [.str (Str.ofString "")]]] s = .exc 3 s := by
  refine look_exc (.inl ?_)
  have e : m_look_some [.tup [.str (Str.ofString "drop"), .int 1, .tup [.str (Str.ofString "")]]] s = .exc 2 s := by
    unfold m_look_some b_look_some u_look_some_1 u_look_some_2 l_look_some_1
    simp only [runR, Nat.reduceAdd, Nat.reduceSub, Int.reduceBEq, Int.reduceEq, Int.reduceLT, Int.reduceLE, Int.reduceNeg, Int.reduceAdd, Int.reduceSub, Int.reduceMul, Int.reduceToNat, Nat.reduceLT, Nat.reduceLeDiff, reduceIte, Int.reduceNe, Int.reduceBNe, String.reduceBEq, eKget2, List.lookup_cons, List.lookup_nil, Option.getD_some, Option.getD_none, Option.map_none, dGt, dLe, ev_must, ev_is_id, id0, id1, idm, idb, id3, dIn_tf, td_bad1, td_bad2, td_bad3, td_bad4, td_bad5, td_ok0, td_ok1, dIn_gr, gr3, gr_3, gr_1, lw_n, lw_a, lw_ha, lh_n, lh_a, lh_A, forGo, List.replicate_succ, List.replicate_zero, List.flatten_cons, List.flatten_nil]
  unfold m_look_whole b_look_whole u_look_whole_1 u_look_whole_2 u_look_whole_3
  simp only [runR, Nat.reduceAdd, Nat.reduceSub, Int.reduceBEq, Int.reduceEq, Int.reduceLT, Int.reduceLE, Int.reduceNeg, Int.reduceAdd, Int.reduceSub, Int.reduceMul, Int.reduceToNat, Nat.reduceLT, Nat.reduceLeDiff, reduceIte, Int.reduceNe, Int.reduceBNe, String.reduceBEq, eKget2, List.lookup_cons, List.lookup_nil, Option.getD_some, Option.getD_none, Option.map_none, dGt, dLe, ev_must, ev_is_id, id0, id1, idm, idb, id3, dIn_tf, td_bad1, td_bad2, td_bad3, td_bad4, td_bad5, td_ok0, td_ok1, dIn_gr, gr3, gr_3, gr_1, lw_n, lw_a, lw_ha, lh_n, lh_a, lh_A, forGo, e]
theorem bad_21 (s : Sto) : m_look_packet [.tup [.str (Str.ofString "heard"), .int 1, .tup [.int 3]]] s = .exc 3 s := by
  refine look_exc (.inr ?_)
  have e : m_look_some [.tup [.str (Str.ofString "heard"), .int 1, .tup [.int 3]]] s = .exc 3 s := by
    unfold m_look_some b_look_some u_look_some_1 u_look_some_2 l_look_some_1
    simp only [runR, Nat.reduceAdd, Nat.reduceSub, Int.reduceBEq, Int.reduceEq, Int.reduceLT, Int.reduceLE, Int.reduceNeg, Int.reduceAdd, Int.reduceSub, Int.reduceMul, Int.reduceToNat, Nat.reduceLT, Nat.reduceLeDiff, reduceIte, Int.reduceNe, Int.reduceBNe, String.reduceBEq, eKget2, List.lookup_cons, List.lookup_nil, Option.getD_some, Option.getD_none, Option.map_none, dGt, dLe, ev_must, ev_is_id, id0, id1, idm, idb, id3, dIn_tf, td_bad1, td_bad2, td_bad3, td_bad4, td_bad5, td_ok0, td_ok1, dIn_gr, gr3, gr_3, gr_1, lw_n, lw_a, lw_ha, lh_n, lh_a, lh_A, forGo, List.replicate_succ, List.replicate_zero, List.flatten_cons, List.flatten_nil]
  unfold m_look_whole b_look_whole u_look_whole_1 u_look_whole_2 u_look_whole_3
  simp only [runR, Nat.reduceAdd, Nat.reduceSub, Int.reduceBEq, Int.reduceEq, Int.reduceLT, Int.reduceLE, Int.reduceNeg, Int.reduceAdd, Int.reduceSub, Int.reduceMul, Int.reduceToNat, Nat.reduceLT, Nat.reduceLeDiff, reduceIte, Int.reduceNe, Int.reduceBNe, String.reduceBEq, eKget2, List.lookup_cons, List.lookup_nil, Option.getD_some, Option.getD_none, Option.map_none, dGt, dLe, ev_must, ev_is_id, id0, id1, idm, idb, id3, dIn_tf, td_bad1, td_bad2, td_bad3, td_bad4, td_bad5, td_ok0, td_ok1, dIn_gr, gr3, gr_3, gr_1, lw_n, lw_a, lw_ha, lh_n, lh_a, lh_A, forGo, e]
theorem bad_22 (s : Sto) : m_look_packet [.tup [.str (Str.ofString "heard"), .int 1, .tup (List.replicate 11 [Dt.int 0]).flatten]] s = .exc 3 s := by
  refine look_exc (.inr ?_)
  have e : m_look_some [.tup [.str (Str.ofString "heard"), .int 1, .tup (List.replicate 11 [Dt.int 0]).flatten]] s = .exc 3 s := by
    unfold m_look_some b_look_some u_look_some_1 u_look_some_2 l_look_some_1
    simp only [runR, Nat.reduceAdd, Nat.reduceSub, Int.reduceBEq, Int.reduceEq, Int.reduceLT, Int.reduceLE, Int.reduceNeg, Int.reduceAdd, Int.reduceSub, Int.reduceMul, Int.reduceToNat, Nat.reduceLT, Nat.reduceLeDiff, reduceIte, Int.reduceNe, Int.reduceBNe, String.reduceBEq, eKget2, List.lookup_cons, List.lookup_nil, Option.getD_some, Option.getD_none, Option.map_none, dGt, dLe, ev_must, ev_is_id, id0, id1, idm, idb, id3, dIn_tf, td_bad1, td_bad2, td_bad3, td_bad4, td_bad5, td_ok0, td_ok1, dIn_gr, gr3, gr_3, gr_1, lw_n, lw_a, lw_ha, lh_n, lh_a, lh_A, forGo, List.replicate_succ, List.replicate_zero, List.flatten_cons, List.flatten_nil]
  unfold m_look_whole b_look_whole u_look_whole_1 u_look_whole_2 u_look_whole_3
  simp only [runR, Nat.reduceAdd, Nat.reduceSub, Int.reduceBEq, Int.reduceEq, Int.reduceLT, Int.reduceLE, Int.reduceNeg, Int.reduceAdd, Int.reduceSub, Int.reduceMul, Int.reduceToNat, Nat.reduceLT, Nat.reduceLeDiff, reduceIte, Int.reduceNe, Int.reduceBNe, String.reduceBEq, eKget2, List.lookup_cons, List.lookup_nil, Option.getD_some, Option.getD_none, Option.map_none, dGt, dLe, ev_must, ev_is_id, id0, id1, idm, idb, id3, dIn_tf, td_bad1, td_bad2, td_bad3, td_bad4, td_bad5, td_ok0, td_ok1, dIn_gr, gr3, gr_3, gr_1, lw_n, lw_a, lw_ha, lh_n, lh_a, lh_A, forGo, e]
theorem bad_23 (s : Sto) : m_look_packet [.tup [.str (Str.ofString "drop"), .int 0, .tup [.str (Str.ofString "a")]]] s = .exc 3 s := by
  refine look_exc (.inr ?_)
  have e : m_look_some [.tup [.str (Str.ofString "drop"), .int 0, .tup [.str (Str.ofString "a")]]] s = .exc 3 s := by
    unfold m_look_some b_look_some u_look_some_1 u_look_some_2 l_look_some_1
    simp only [runR, Nat.reduceAdd, Nat.reduceSub, Int.reduceBEq, Int.reduceEq, Int.reduceLT, Int.reduceLE, Int.reduceNeg, Int.reduceAdd, Int.reduceSub, Int.reduceMul, Int.reduceToNat, Nat.reduceLT, Nat.reduceLeDiff, reduceIte, Int.reduceNe, Int.reduceBNe, String.reduceBEq, eKget2, List.lookup_cons, List.lookup_nil, Option.getD_some, Option.getD_none, Option.map_none, dGt, dLe, ev_must, ev_is_id, id0, id1, idm, idb, id3, dIn_tf, td_bad1, td_bad2, td_bad3, td_bad4, td_bad5, td_ok0, td_ok1, dIn_gr, gr3, gr_3, gr_1, lw_n, lw_a, lw_ha, lh_n, lh_a, lh_A, forGo, List.replicate_succ, List.replicate_zero, List.flatten_cons, List.flatten_nil]
  unfold m_look_whole b_look_whole u_look_whole_1 u_look_whole_2 u_look_whole_3
  simp only [runR, Nat.reduceAdd, Nat.reduceSub, Int.reduceBEq, Int.reduceEq, Int.reduceLT, Int.reduceLE, Int.reduceNeg, Int.reduceAdd, Int.reduceSub, Int.reduceMul, Int.reduceToNat, Nat.reduceLT, Nat.reduceLeDiff, reduceIte, Int.reduceNe, Int.reduceBNe, String.reduceBEq, eKget2, List.lookup_cons, List.lookup_nil, Option.getD_some, Option.getD_none, Option.map_none, dGt, dLe, ev_must, ev_is_id, id0, id1, idm, idb, id3, dIn_tf, td_bad1, td_bad2, td_bad3, td_bad4, td_bad5, td_ok0, td_ok1, dIn_gr, gr3, gr_3, gr_1, lw_n, lw_a, lw_ha, lh_n, lh_a, lh_A, forGo, e]
theorem bad_24 (s : Sto) : m_look_packet [.tup [.str (Str.ofString "connect"), .str (Str.ofString "A"), .bl false, .non]] s = .exc 3 s := by
  refine look_exc (.inl ?_)
  unfold m_look_whole b_look_whole u_look_whole_1 u_look_whole_2 u_look_whole_3
  simp only [runR, Nat.reduceAdd, Nat.reduceSub, Int.reduceBEq, Int.reduceEq, Int.reduceLT, Int.reduceLE, Int.reduceNeg, Int.reduceAdd, Int.reduceSub, Int.reduceMul, Int.reduceToNat, Nat.reduceLT, Nat.reduceLeDiff, reduceIte, Int.reduceNe, Int.reduceBNe, String.reduceBEq, eKget2, List.lookup_cons, List.lookup_nil, Option.getD_some, Option.getD_none, Option.map_none, dGt, dLe, ev_must, ev_is_id, id0, id1, idm, idb, id3, dIn_tf, td_bad1, td_bad2, td_bad3, td_bad4, td_bad5, td_ok0, td_ok1, dIn_gr, gr3, gr_3, gr_1, lw_n, lw_a, lw_ha, lh_n, lh_a, lh_A, forGo]
theorem bad_25 (s : Sto) : m_look_packet [.tup [.str (Str.ofString "close")]] s = .exc 3 s := by
  refine look_exc (.inr ?_)
  unfold m_look_whole b_look_whole u_look_whole_1 u_look_whole_2 u_look_whole_3
  simp only [runR, Nat.reduceAdd, Nat.reduceSub, Int.reduceBEq, Int.reduceEq, Int.reduceLT, Int.reduceLE, Int.reduceNeg, Int.reduceAdd, Int.reduceSub, Int.reduceMul, Int.reduceToNat, Nat.reduceLT, Nat.reduceLeDiff, reduceIte, Int.reduceNe, Int.reduceBNe, String.reduceBEq, eKget2, List.lookup_cons, List.lookup_nil, Option.getD_some, Option.getD_none, Option.map_none, dGt, dLe, ev_must, ev_is_id, id0, id1, idm, idb, id3, dIn_tf, td_bad1, td_bad2, td_bad3, td_bad4, td_bad5, td_ok0, td_ok1, dIn_gr, gr3, gr_3, gr_1, lw_n, lw_a, lw_ha, lh_n, lh_a, lh_A, forGo]
theorem bad_26 (s : Sto) : m_look_packet [.tup [.str (Str.ofString "dropped"), .int (-1)]] s = .exc 3 s := by
  refine look_exc (.inr ?_)
  unfold m_look_whole b_look_whole u_look_whole_1 u_look_whole_2 u_look_whole_3
  simp only [runR, Nat.reduceAdd, Nat.reduceSub, Int.reduceBEq, Int.reduceEq, Int.reduceLT, Int.reduceLE, Int.reduceNeg, Int.reduceAdd, Int.reduceSub, Int.reduceMul, Int.reduceToNat, Nat.reduceLT, Nat.reduceLeDiff, reduceIte, Int.reduceNe, Int.reduceBNe, String.reduceBEq, eKget2, List.lookup_cons, List.lookup_nil, Option.getD_some, Option.getD_none, Option.map_none, dGt, dLe, ev_must, ev_is_id, id0, id1, idm, idb, id3, dIn_tf, td_bad1, td_bad2, td_bad3, td_bad4, td_bad5, td_ok0, td_ok1, dIn_gr, gr3, gr_3, gr_1, lw_n, lw_a, lw_ha, lh_n, lh_a, lh_A, forGo]
theorem bad_27 (s : Sto) : m_look_packet [.tup [.str (Str.ofString "say"), .str (Str.ofString ""), .str (Str.ofString ""), .int 0, .bl false, .bl false, .int 0]] s = .exc 3 s := by
  refine look_exc (.inl ?_)
  have e : m_look_say [.tup [.str (Str.ofString "say"), .str (Str.ofString ""), .str (Str.ofString ""), .int 0, .bl false, .bl false, .int 0]] s = .exc 2 s := by
    unfold m_look_say b_look_say
    simp only [runR, Nat.reduceAdd, Nat.reduceSub, Int.reduceBEq, Int.reduceEq, Int.reduceLT, Int.reduceLE, Int.reduceNeg, Int.reduceAdd, Int.reduceSub, Int.reduceMul, Int.reduceToNat, Nat.reduceLT, Nat.reduceLeDiff, reduceIte, Int.reduceNe, Int.reduceBNe, String.reduceBEq, eKget2, List.lookup_cons, List.lookup_nil, Option.getD_some, Option.getD_none, Option.map_none, dGt, dLe, ev_must, ev_is_id, id0, id1, idm, idb, id3, dIn_tf, td_bad1, td_bad2, td_bad3, td_bad4, td_bad5, td_ok0, td_ok1, dIn_gr, gr3, gr_3, gr_1, lw_n, lw_a, lw_ha, lh_n, lh_a, lh_A, forGo]
  unfold m_look_whole b_look_whole u_look_whole_1 u_look_whole_2 u_look_whole_3
  simp only [runR, Nat.reduceAdd, Nat.reduceSub, Int.reduceBEq, Int.reduceEq, Int.reduceLT, Int.reduceLE, Int.reduceNeg, Int.reduceAdd, Int.reduceSub, Int.reduceMul, Int.reduceToNat, Nat.reduceLT, Nat.reduceLeDiff, reduceIte, Int.reduceNe, Int.reduceBNe, String.reduceBEq, eKget2, List.lookup_cons, List.lookup_nil, Option.getD_some, Option.getD_none, Option.map_none, dGt, dLe, ev_must, ev_is_id, id0, id1, idm, idb, id3, dIn_tf, td_bad1, td_bad2, td_bad3, td_bad4, td_bad5, td_ok0, td_ok1, dIn_gr, gr3, gr_3, gr_1, lw_n, lw_a, lw_ha, lh_n, lh_a, lh_A, forGo, e]
def badL : List Dt := [.tup [], .tup [.str (Str.ofString "none")], .tup [.str (Str.ofString "ping"), .int 1], .tup [.str (Str.ofString "got"), .int 0], .tup [.str (Str.ofString "done"), .int 65536], .tup [.str (Str.ofString "say"), .str (Str.ofString "a"), .str (Str.ofString "x"), .int 0, .bl true, .bl false, .int 1], .tup [.str (Str.ofString "bad")], .tup [.str (Str.ofString "say"), .str (Str.ofString "a"), .str (Str.ofString "x"), .int 1, .bl true, .bl false, .int 0], .tup [.str (Str.ofString "say"), .str (Str.ofString "a"), .str (Str.ofString "x"), .int 0, .bl false, .bl true, .int 0], .tup [.str (Str.ofString "got")], .tup [.str (Str.ofString "say"), .str (Str.ofString "a/+"), .str (Str.ofString "x"), .int 1, .bl true, .bl false, .int 3], .tup [.str (Str.ofString "say"), .str (Str.ofString "a"), .str (Str.ofString "x"), .int 3, .bl true, .bl false, .int 3], .tup [.str (Str.ofString "say"), .str (Str.ofString "a"), .str longB, .int 1, .bl true, .bl false, .int 3], .tup [.str (Str.ofString "connect"), .str (Str.ofString ""), .bl true, .non], .tup [.str (Str.ofString "hear"), .int 1, .tup []], .tup [.str (Str.ofString "connect"), .str (Str.ofString "a"), .bl true, .tup [.str (Str.ofString "a"), .str (Str.ofString "x"), .int 1]], .tup [.str (Str.ofString "connect"), .str (Str.ofString "a"), .bl true, .tup [.str (Str.ofString "#"), .str (Str.ofString "x"), .int 1, .bl true]], .tup [.str (Str.ofString "hear"), .int 1, .tup [.tup [.str (Str.ofString "a"), .int 3]]], .tup [.str (Str.ofString "hear"), .int 1, .tup [.tup [.str (Str.ofString "a"), .int 1, .int 1]]], .tup [.str (Str.ofString "hear"), .int 1, .tup [.tup [.str (Str.ofString "#a"), .int 1]]], .tup [.str (Str.ofString "drop"), .int 1, .tup [.str (Str.ofString "")]], .tup [.str (Str.ofString "heard"), .int 1, .tup [.int 3]], .tup [.str (Str.ofString "heard"), .int 1, .tup (List.replicate 11 [Dt.int 0]).flatten], .tup [.str (Str.ofString "drop"), .int 0, .tup [.str (Str.ofString "a")]], .tup [.str (Str.ofString "connect"), .str (Str.ofString "A"), .bl false, .non], .tup [.str (Str.ofString "close")], .tup [.str (Str.ofString "dropped"), .int (-1)], .tup [.str (Str.ofString "say"), .str (Str.ofString ""), .str (Str.ofString ""), .int 0, .bl false, .bl false, .int 0]]
theorem bad_all {d : Dt} (h : d ∈ badL) (s : Sto) : m_look_packet [d] s = .exc 3 s := by
  unfold badL at h
  simp only [List.mem_cons, List.not_mem_nil, or_false] at h
  rcases h with e | e | e | e | e | e | e | e | e | e | e | e | e | e | e | e | e | e | e | e | e | e | e | e | e | e | e | e
  · subst e; exact bad_0 s
  · subst e; exact bad_1 s
  · subst e; exact bad_2 s
  · subst e; exact bad_3 s
  · subst e; exact bad_4 s
  · subst e; exact bad_5 s
  · subst e; exact bad_6 s
  · subst e; exact bad_7 s
  · subst e; exact bad_8 s
  · subst e; exact bad_9 s
  · subst e; exact bad_10 s
  · subst e; exact bad_11 s
  · subst e; exact bad_12 s
  · subst e; exact bad_13 s
  · subst e; exact bad_14 s
  · subst e; exact bad_15 s
  · subst e; exact bad_16 s
  · subst e; exact bad_17 s
  · subst e; exact bad_18 s
  · subst e; exact bad_19 s
  · subst e; exact bad_20 s
  · subst e; exact bad_21 s
  · subst e; exact bad_22 s
  · subst e; exact bad_23 s
  · subst e; exact bad_24 s
  · subst e; exact bad_25 s
  · subst e; exact bad_26 s
  · subst e; exact bad_27 s
end Tx
namespace Tx
open PySem L2 Pd
/-! ### the law -/
theorem rs_long {s : Sto} : dRepS (.str (Str.ofString "x")) (.int 301) s = .ok (.str longB) s := by
  have e : decide (2 ≤ (301 : Int) ∧ 0 < (Str.ofString "x").length ∧ (Str.ofString "x").length * (301 : Int).toNat ≤ 1000000) = true := by
    rw [t_x, mkS_len]
    decide +kernel
  unfold longB
  simp only [dRepS, e, if_true]
  rfl
theorem rt_z {s : Sto} : dRepT (.tup [.int 0]) (.int 11) s = .ok (.tup (List.replicate 11 [Dt.int 0]).flatten) s := by
  have e : decide (2 ≤ (11 : Int) ∧ (11 : Int) ≤ 1000 ∧ 0 < [Dt.int 0].length ∧ [Dt.int 0].length ≤ 1000) = true := by decide
  simp only [dRepT, e, if_true]
  rfl
theorem ev_bad (ns : List Int) {t N : Nat} {R : List SP} {s : Sto} (hN : N + 3000 < 900000) (o : Own (Tw t N :: R) s) : ∃ (d : Dt) (s' : Sto), m_law_bad [sc ns, .obj t] s = .ok d s' ∧ d ∈ badL ∧ Own (Tw t (N + 1) :: R) s' := by
  obtain ⟨d, hd, s1, h1, o1⟩ := ev_pick ns (l := badL) o (by omega) (by simp [badL])
  refine ⟨d, s1, ?_, hd, o1⟩
  unfold badL at h1
  unfold m_law_bad b_law_bad
  simp only [evR, Nat.reduceAdd, Nat.reduceSub, Int.reduceBEq, Int.reduceEq, Int.reduceLT, Int.reduceLE, Int.reduceNeg, Int.reduceAdd, Int.reduceSub, Int.reduceMul, Int.reduceToNat, Nat.reduceLT, Nat.reduceLeDiff, reduceIte, Int.reduceNe, Int.reduceBNe, String.reduceBEq, rs_long, rt_z, dAdd_ll, h1]
theorem ref_packet (s : Sto) : m_law_refusal [.exc 3] s = .ok (.tup [.str (Str.ofString "refused"), .str (Str.ofString "packet")]) s := rfl
theorem no_written {d : Dt} {s : Sto} (h : m_look_packet [d] s = .exc 3 s) : m_written_packet [d] s = .exc 3 s := by
  have : WO (m_written_packet [d] s) (fun _ _ => False) (fun c z => c = 3 ∧ z = s) := by
    unfold m_written_packet
    refine wf_fn ?_
    unfold b_written_packet
    refine ws_seq ?_
    refine ws_ex (f := u_written_packet_1) (c := 3) (e := [some d, none, none]) (s1 := s) ?_ ⟨rfl, rfl⟩
    unfold u_written_packet_1
    rw [ev_expr, sBnd_def, (call1_ok (fa := eVar 0) rfl).trans h]
    rfl
  cases hq : m_written_packet [d] s with
  | ok d z => rw [hq] at this; exact this.elim
  | exc c z => rw [hq] at this; obtain ⟨rfl, rfl⟩ := this; rfl
  | bad => rw [hq] at this; exact this.elim
theorem tOr_ok2 {t u : Tx} {env : En} {s s1 : Sto} {a b : Bool} (h : t env s = .ok a s1) (k : a = false → u env s1 = .ok b s1) : (tOr t u) env s = .ok (a || b) s1 := by
  rw [ev_or]
  unfold bnd
  rw [h]
  cases a
  · exact k rfl
  · rfl
theorem told_ok {w : Nat} {d r : Dt} {s s' : Sto} (h : w = 0 ∧ m_written_packet [d] s = .ok r s' ∨ w = 1 ∧ m_read_packet [d] s = .ok r s' ∨ w = 2 ∧ m_look_packet [d] s = .ok r s') : m_law_told [.int (w : Nat), d] s = .ok r s' := by
  unfold m_law_told
  refine ws_chk ?_
  unfold b_law_told
  show WS _ _ [some (.int (w : Nat)), some d, none, none, none] s
  refine ws_step (f := u_law_told_1) (e := [some (.int (w : Nat)), some d, some .non, none, none]) (s1 := s) (st_asg rfl) (ws_step (f := u_law_told_2) (e := [some (.int (w : Nat)), some d, some .non, some .non, none]) (s1 := s) (st_asg rfl) ?_)
  refine ws_step (f := u_law_told_3) (e := [some (.int (w : Nat)), some d, some .non, some r, none]) (s1 := s') ?_ ?_
  · unfold u_law_told_3
    rw [ev_tryH]
    have t0 : (tBl (eOp dEq (eVar 0) (eC (.int 0)))) [some (.int (w : Nat)), some d, some .non, some .non, none] s = .ok (w == 0) s := tBl_ok (eq_n 0 (e := eVar 0) rfl)
    have t1 : (tBl (eOp dEq (eVar 0) (eC (.int 1)))) [some (.int (w : Nat)), some d, some .non, some .non, none] s = .ok (w == 1) s := tBl_ok (eq_n 1 (e := eVar 0) rfl)
    have b : (sIf (tBl (eOp dEq (eVar 0) (eC (.int 0)))) (sAsg (eCall m_written_packet [eVar 1]) (gN 3)) (sAsg (eIf (tBl (eOp dEq (eVar 0) (eC (.int 1)))) (eCall m_read_packet [eVar 1]) (eCall m_look_packet [eVar 1])) (gN 3))) [some (.int (w : Nat)), some d, some .non, some .non, none] s = .fl (.nx [some (.int (w : Nat)), some d, some .non, some r, none]) s' := by
      rcases h with ⟨rfl, h⟩ | ⟨rfl, h⟩ | ⟨rfl, h⟩
      · exact st_ifT (t0.trans rfl) (st_asg ((call1_ok (fa := eVar 1) rfl).trans h))
      · refine st_ifE (t0.trans rfl) (st_asg ?_)
        rw [ex_if t1]
        exact (call1_ok (fa := eVar 1) rfl).trans h
      · refine st_ifE (t0.trans rfl) (st_asg ?_)
        rw [ex_if t1]
        exact (call1_ok (fa := eVar 1) rfl).trans h
    rw [b]
  · refine ws_rt (f := u_law_told_4) (st_ret ?_) ⟨rfl, rfl⟩
    rw [ex_if (notN_t (i := 2) (d := .non) (b := true) rfl rfl)]
    rfl
theorem told_exc {w : Nat} {d : Dt} {s : Sto} (h : w = 0 ∧ m_written_packet [d] s = .exc 3 s ∨ w = 2 ∧ m_look_packet [d] s = .exc 3 s) : m_law_told [.int (w : Nat), d] s = .ok (.tup [.str (Str.ofString "refused"), .str (Str.ofString "packet")]) s := by
  unfold m_law_told
  refine ws_chk ?_
  unfold b_law_told
  show WS _ _ [some (.int (w : Nat)), some d, none, none, none] s
  refine ws_step (f := u_law_told_1) (e := [some (.int (w : Nat)), some d, some .non, none, none]) (s1 := s) (st_asg rfl) (ws_step (f := u_law_told_2) (e := [some (.int (w : Nat)), some d, some .non, some .non, none]) (s1 := s) (st_asg rfl) ?_)
  refine ws_step (f := u_law_told_3) (e := [some (.int (w : Nat)), some d, some (.exc 3), some .non, none]) (s1 := s) ?_ ?_
  · unfold u_law_told_3
    rw [ev_tryH]
    have t0 : (tBl (eOp dEq (eVar 0) (eC (.int 0)))) [some (.int (w : Nat)), some d, some .non, some .non, none] s = .ok (w == 0) s := tBl_ok (eq_n 0 (e := eVar 0) rfl)
    have t1 : (tBl (eOp dEq (eVar 0) (eC (.int 1)))) [some (.int (w : Nat)), some d, some .non, some .non, none] s = .ok (w == 1) s := tBl_ok (eq_n 1 (e := eVar 0) rfl)
    have b : (sIf (tBl (eOp dEq (eVar 0) (eC (.int 0)))) (sAsg (eCall m_written_packet [eVar 1]) (gN 3)) (sAsg (eIf (tBl (eOp dEq (eVar 0) (eC (.int 1)))) (eCall m_read_packet [eVar 1]) (eCall m_look_packet [eVar 1])) (gN 3))) [some (.int (w : Nat)), some d, some .non, some .non, none] s = .exc 3 [some (.int (w : Nat)), some d, some .non, some .non, none] s := by
      rcases h with ⟨rfl, h⟩ | ⟨rfl, h⟩
      · rw [ev_if, sBnd_def, t0]
        show (sAsg (eCall m_written_packet [eVar 1]) (gN 3)) _ s = _
        rw [ev_asg, sBnd_def, (call1_ok (fa := eVar 1) rfl).trans h]
      · rw [ev_if, sBnd_def, t0]
        show (sAsg (eIf (tBl (eOp dEq (eVar 0) (eC (.int 1)))) (eCall m_read_packet [eVar 1]) (eCall m_look_packet [eVar 1])) (gN 3)) _ s = _
        have k : (eIf (tBl (eOp dEq (eVar 0) (eC (.int 1)))) (eCall m_read_packet [eVar 1]) (eCall m_look_packet [eVar 1])) [some (.int ((2 : Nat) : Int)), some d, some .non, some .non, none] s = .exc 3 s := by
          rw [ex_if t1]
          exact (call1_ok (fa := eVar 1) rfl).trans h
        rw [ev_asg, sBnd_def, k]
    rw [b]
    rfl
  · refine ws_rt (f := u_law_told_4) (st_ret ?_) ⟨rfl, rfl⟩
    rw [ex_if (notN_t (i := 2) (d := .exc 3) (b := false) rfl rfl), if_neg (by decide)]
    exact (call1_ok (fa := eVar 2) rfl).trans (ref_packet s)
theorem map_dpt {α : Type} {f : α → Dt} {n : Nat} (l : List α) (h : ∀ a, dpt (f a) = some n) : ∃ m, dpts (l.map f) = some m ∧ m ≤ n :=
  dpts_all fun d hd => by
    obtain ⟨a, _, rfl⟩ := List.mem_map.mp hd
    exact h a
theorem tup3_dpt {x y : Dt} {l : List Dt} {m : Nat} (hx : dpt x = some 0) (hy : dpt y = some 0) (h : dpts l = some m) : dpt (.tup [x, y, .tup l]) = some (m + 2) := by
  simp only [dpt, dpts, hx, hy, h, Option.map_some]
  have : max 0 (max 0 (max (m + 1) 0)) + 1 = m + 2 := by omega
  rw [this]
theorem pz_dpt {p : Pz} : ∃ n, dpt p.d = some n ∧ n ≤ 4 := by
  cases p with
  | con h c w =>
    cases w with
    | none => exact ⟨1, rfl, by omega⟩
    | some t => exact ⟨2, rfl, by omega⟩
  | gre b => exact ⟨1, rfl, by omega⟩
  | say t ag i => exact ⟨1, rfl, by omega⟩
  | one k i => exact ⟨1, rfl, by omega⟩
  | nul k => exact ⟨1, rfl, by omega⟩
  | hea i l =>
    obtain ⟨m, h1, h2⟩ := map_dpt (f := heaD) (n := 1) (l.map fun e => (e.1, (e.2 : Int))) fun a => rfl
    exact ⟨m + 2, tup3_dpt rfl rfl h1, by omega⟩
  | hrd i l =>
    obtain ⟨m, h1, h2⟩ := map_dpt (f := Dt.int) (n := 0) (l.map fun n : Nat => (n : Int)) fun a => rfl
    exact ⟨m + 2, tup3_dpt rfl rfl h1, by omega⟩
  | drp i l =>
    obtain ⟨m, h1, h2⟩ := map_dpt (f := fun x : List Nat => Dt.str (mkS x)) (n := 0) l fun a => rfl
    exact ⟨m + 2, tup3_dpt rfl rfl h1, by omega⟩
theorem law_true : ∀ ns : List Int, ns.length ≤ 63 → ∃ s, m_law [.lsk (ns.map .int)] [] = .ok (.bl true) s := by
  intro ns hns
  suffices k : WO (m_law [sc ns] []) (fun d _ => d = .bl true) noX by
    obtain ⟨d, s, e, rfl⟩ := wo_iff k
    exact ⟨s, e⟩
  unfold m_law
  refine wf_fn ?_
  unfold b_law
  show WS _ _ [some (sc ns), none, none, none, none, none, none] []
  refine ws_step (f := u_law_1) (e := [some (sc ns), some (.obj 0), none, none, none, none, none]) (s1 := [Mo.lst []]) (st_asg rfl) ?_
  have o0 : Own (Tw 0 0 :: []) [Mo.lst []] := own_tw.mpr ⟨0, Nat.le_refl _, own_nil.new (s := []) (Mo.lst [])⟩
  generalize [Mo.lst []] = s0 at o0 ⊢
  obtain ⟨p, s1, h1, hp, o1⟩ := ev_packet ns (by omega) o0
  refine ws_step (f := u_law_2) (e := [some (sc ns), some (.obj 0), some p.d, none, none, none, none]) (s1 := s1) (st_asg ((call2_ok (fa := eVar 0) (fb := eVar 1) rfl rfl).trans h1)) ?_
  obtain ⟨s2, h2, o2⟩ := ev_written hp o1
  have c2 := told_ok (w := 0) (.inl ⟨rfl, h2⟩)
  refine ws_step (f := u_law_3) (e := [some (sc ns), some (.obj 0), some p.d, some (.lst (bys p.wr)), none, none, none]) (s1 := s2) (st_asg ((call2_ok (fa := eC (.int 0)) (fb := eVar 2) rfl rfl).trans c2)) ?_
  have lk : m_look_packet [p.d] s2 = .ok .non s2 := look_ok hp.pk s2
  have c4 := told_ok (w := 2) (.inr (.inr ⟨rfl, lk⟩))
  refine ws_step (f := u_law_4) (e := [some (sc ns), some (.obj 0), some p.d, some (.lst (bys p.wr)), none, none, none]) (s1 := s2) (st_ifF (tOr_ok (a := false) (b := false) ?_ fun _ => ?_)) ?_
  · exact tBl_ok ((op_ok (op := dNe) (fa := eVar 3) rfl ((call1_ok (fa := eVar 2) rfl).trans (ev_lbytes hp))).trans dNe_bys.2)
  · exact tBl_ok ((un_ok (op := dNotN) ((call2_ok (fa := eC (.int 2)) (fb := eVar 2) rfl rfl).trans c4)).trans rfl)
  refine ws_step (f := u_law_5) (e := [some (sc ns), some (.obj 0), some p.d, some (.lst (bys p.wr)), some (.lst (bys p.wr)), none, none]) (s1 := s2) (st_asg rfl) ?_
  obtain ⟨s3, h3, o3⟩ := ev_read hp o2
  have c6 := told_ok (w := 1) (.inr (.inl ⟨rfl, h3⟩))
  obtain ⟨n, hn, hn2⟩ := pz_dpt (p := p)
  refine ws_step (f := u_law_6) (e := [some (sc ns), some (.obj 0), some p.d, some (.lst (bys p.wr)), some (.lst (bys p.wr)), none, none]) (s1 := s3) (st_ifF (tOr_ok2 (a := false) (b := false) (s1 := s3) ?_ fun _ => ?_)) ?_
  · exact tBl_ok ((op_ok (op := dNe) (fb := eVar 2) ((call2_ok (fa := eC (.int 1)) (fb := eVar 4) rfl rfl).trans c6) rfl).trans (dEq_self hn (by omega)).2)
  · exact tBl_ok ((op_ok (op := dNe) (fa := eVar 4) (fb := eVar 3) rfl rfl).trans dNe_bys.2)
  obtain ⟨d, s4, h4, hd, o4⟩ := ev_bad ns (by omega) o3
  refine ws_step (f := u_law_7) (e := [some (sc ns), some (.obj 0), some p.d, some (.lst (bys p.wr)), some (.lst (bys p.wr)), some d, none]) (s1 := s4) (st_asg ((call2_ok (fa := eVar 0) (fb := eVar 1) rfl rfl).trans h4)) ?_
  have b2' := bad_all hd s4
  have b0 := no_written b2'
  have t0 := told_exc (w := 0) (.inl ⟨rfl, b0⟩)
  have t2 := told_exc (w := 2) (.inr ⟨rfl, b2'⟩)
  refine ws_rt (f := u_law_8) (d := .bl true) (s1 := s4) (st_ret ?_) rfl
  have hi : (iSeq (eTup [eC (.int 0), eC (.int 2)])) [some (sc ns), some (.obj 0), some p.d, some (.lst (bys p.wr)), some (.lst (bys p.wr)), some d, none] s4 = .ok ([0, 2].map nD, fun s' => asQ s' (.tup [.int 0, .int 2]) = some [.int 0, .int 2]) s4 := rfl
  have l1 : (eLc nwF [6] (iSeq (eTup [eC (.int 0), eC (.int 2)])) (gN 6) (Pd.tYes) (eCall m_law_told [eVar 6, eVar 5])) [some (sc ns), some (.obj 0), some p.d, some (.lst (bys p.wr)), some (.lst (bys p.wr)), some d, none] s4 = .ok (.lst ([0, 2].map fun _ : Nat => .tup [.str (Str.ofString "refused"), .str (Str.ofString "packet")])) s4 := by
    rw [ev_lc, bnd_def, hi]
    have lm : lcGo (gN 6) Pd.tYes (eCall m_law_told [eVar 6, eVar 5]) (fun s' => asQ s' (.tup [.int 0, .int 2]) = some [.int 0, .int 2]) ([0, 2].map nD) [some (sc ns), some (.obj 0), some p.d, some (.lst (bys p.wr)), some (.lst (bys p.wr)), some d, none] s4 = .ok ([0, 2].map fun _ : Nat => .tup [.str (Str.ofString "refused"), .str (Str.ofString "packet")]) s4 :=
      lc_map (ok := fun s' => asQ s' (.tup [.int 0, .int 2]) = some [.int 0, .int 2]) (f := nD) (g := fun _ : Nat => .tup [.str (Str.ofString "refused"), .str (Str.ofString "packet")]) asQ_tup fun a ha => by
        refine ⟨_, rfl, rfl, ?_⟩
        refine (call2_ok (fa := eVar 6) (fb := eVar 5) rfl rfl).trans ?_
        simp only [List.mem_cons, List.not_mem_nil, or_false] at ha
        rcases ha with e | e
        · subst e; exact t0
        · subst e; exact t2
    show bndN (lcGo (gN 6) Pd.tYes (eCall m_law_told [eVar 6, eVar 5]) (fun s' => asQ s' (.tup [.int 0, .int 2]) = some [.int 0, .int 2]) ([0, 2].map nD) [some (sc ns), some (.obj 0), some p.d, some (.lst (bys p.wr)), some (.lst (bys p.wr)), some d, none]) nwF s4 = _
    rw [bndN_ok lm]
    rfl
  have l2 : (eOp (dRep nwF) (eLst nwF [eTup [eC (.str (Str.ofString "refused")), eC (.str (Str.ofString "packet"))]]) (eC (.int 2))) [some (sc ns), some (.obj 0), some p.d, some (.lst (bys p.wr)), some (.lst (bys p.wr)), some d, none] s4 = .ok (.lst ([0, 2].map fun _ : Nat => .tup [.str (Str.ofString "refused"), .str (Str.ofString "packet")])) s4 := by
    refine (op_ok (fa := eLst nwF [eTup [eC (.str (Str.ofString "refused")), eC (.str (Str.ofString "packet"))]]) (fb := eC (.int 2)) rfl rfl).trans ?_
    show dRep nwF (.lst [.tup [.str (Str.ofString "refused"), .str (Str.ofString "packet")]]) (.int 2) s4 = _
    unfold dRep
    rw [trkL_lst]
    show (if (2 : Int) < 1000000 ∧ -1000000 < (2 : Int) ∧ 1 * (2 : Int).toNat ≤ sizeLine then _ else _) = _
    rw [if_pos ⟨by decide, by decide, szs (by decide)⟩]
    rfl
  exact (op_ok l1 l2).trans (dEq_self (n := 2) rfl (by omega)).1
end Tx
def PySem.W.Fast.tw10014503470893894139 : Unit := ()
def PySem.W.Fast.tw10059779899406293791 : Unit := ()
def PySem.W.Fast.tw10067623224667638540 : Unit := ()
def PySem.W.Fast.tw10082295661808056181 : Unit := ()
def PySem.W.Fast.tw10124422537941229477 : Unit := ()
def PySem.W.Fast.tw10179454327022917636 : Unit := ()
def PySem.W.Fast.tw10185252487962345089 : Unit := ()
def PySem.W.Fast.tw10223894672781394106 : Unit := ()
def PySem.W.Fast.tw10352151606848107348 : Unit := ()
def PySem.W.Fast.tw10406385394095202427 : Unit := ()
def PySem.W.Fast.tw10449326101139153311 : Unit := ()
def PySem.W.Fast.tw10496389220103218700 : Unit := ()
def PySem.W.Fast.tw10508162483829685011 : Unit := ()
def PySem.W.Fast.tw10636998771989091167 : Unit := ()
def PySem.W.Fast.tw10661125579175736056 : Unit := ()
def PySem.W.Fast.tw10666862362800539862 : Unit := ()
def PySem.W.Fast.tw1069357250400435700 : Unit := ()
def PySem.W.Fast.tw1070057002805690172 : Unit := ()
def PySem.W.Fast.tw10826858652748125127 : Unit := ()
def PySem.W.Fast.tw10836753673311047900 : Unit := ()
def PySem.W.Fast.tw1091900798659150379 : Unit := ()
def PySem.W.Fast.tw10920371815618611787 : Unit := ()
def PySem.W.Fast.tw10943176656483397200 : Unit := ()
def PySem.W.Fast.tw10948880945138767989 : Unit := ()
def PySem.W.Fast.tw10964414800335101870 : Unit := ()
def PySem.W.Fast.tw11010704720202860349 : Unit := ()
def PySem.W.Fast.tw11040388682174297371 : Unit := ()
def PySem.W.Fast.tw11046979843923141211 : Unit := ()
def PySem.W.Fast.tw11049902586741693085 : Unit := ()
def PySem.W.Fast.tw11094191724738785333 : Unit := ()
def PySem.W.Fast.tw11137947947248003407 : Unit := ()
def PySem.W.Fast.tw11151742253021405820 : Unit := ()
def PySem.W.Fast.tw11174386446686795432 : Unit := ()
def PySem.W.Fast.tw11179774130900411215 : Unit := ()
def PySem.W.Fast.tw1119134443477849662 : Unit := ()
def PySem.W.Fast.tw11281155231207977259 : Unit := ()
def PySem.W.Fast.tw11298848943139434674 : Unit := ()
def PySem.W.Fast.tw1130276984864245704 : Unit := ()
def PySem.W.Fast.tw11316212162079867329 : Unit := ()
def PySem.W.Fast.tw1133902335618430881 : Unit := ()
def PySem.W.Fast.tw11374072848025644500 : Unit := ()
def PySem.W.Fast.tw1139900215205160709 : Unit := ()
def PySem.W.Fast.tw11423165475168115878 : Unit := ()
def PySem.W.Fast.tw1154259364987980293 : Unit := ()
def PySem.W.Fast.tw11595368960996784844 : Unit := ()
def PySem.W.Fast.tw11608185212060749873 : Unit := ()
def PySem.W.Fast.tw11609498503344735222 : Unit := ()
def PySem.W.Fast.tw11647185373598854147 : Unit := ()
def PySem.W.Fast.tw11658240828118052653 : Unit := ()
def PySem.W.Fast.tw11711275709561205464 : Unit := ()
def PySem.W.Fast.tw11764381407595729732 : Unit := ()
def PySem.W.Fast.tw11769811357250707450 : Unit := ()
def PySem.W.Fast.tw11797199564507714102 : Unit := ()
def PySem.W.Fast.tw12032630945933301365 : Unit := ()
def PySem.W.Fast.tw1211780423130861318 : Unit := ()
def PySem.W.Fast.tw12151705894656405651 : Unit := ()
def PySem.W.Fast.tw12166225118744589370 : Unit := ()
def PySem.W.Fast.tw12174423477823750724 : Unit := ()
def PySem.W.Fast.tw12220343607227278392 : Unit := ()
def PySem.W.Fast.tw12368277803145588405 : Unit := ()
def PySem.W.Fast.tw12389038240085910171 : Unit := ()
def PySem.W.Fast.tw12422974468222331735 : Unit := ()
def PySem.W.Fast.tw12482360093479935461 : Unit := ()
def PySem.W.Fast.tw12489700236353857492 : Unit := ()
def PySem.W.Fast.tw12526508893535196131 : Unit := ()
def PySem.W.Fast.tw1257038439193357038 : Unit := ()
def PySem.W.Fast.tw12613815394910575597 : Unit := ()
def PySem.W.Fast.tw12632992399400317177 : Unit := ()
def PySem.W.Fast.tw1265088888802032747 : Unit := ()
def PySem.W.Fast.tw12661573983229897841 : Unit := ()
def PySem.W.Fast.tw1271803222679445299 : Unit := ()
def PySem.W.Fast.tw12741527899436437344 : Unit := ()
def PySem.W.Fast.tw12775356910185783460 : Unit := ()
def PySem.W.Fast.tw1281625943439209183 : Unit := ()
def PySem.W.Fast.tw12828429159124820334 : Unit := ()
def PySem.W.Fast.tw12858460822358093483 : Unit := ()
def PySem.W.Fast.tw12874462288149806064 : Unit := ()
def PySem.W.Fast.tw12886375314973632246 : Unit := ()
def PySem.W.Fast.tw12916322491176170519 : Unit := ()
def PySem.W.Fast.tw12927885529872034572 : Unit := ()
def PySem.W.Fast.tw12979995699828880740 : Unit := ()
def PySem.W.Fast.tw1298651514917943423 : Unit := ()
def PySem.W.Fast.tw12987022711154677851 : Unit := ()
def PySem.W.Fast.tw13003681437334260156 : Unit := ()
def PySem.W.Fast.tw1301771370709667319 : Unit := ()
def PySem.W.Fast.tw13020975064589635100 : Unit := ()
def PySem.W.Fast.tw13037075893640376918 : Unit := ()
def PySem.W.Fast.tw13112764425560597113 : Unit := ()
def PySem.W.Fast.tw13166157461079999803 : Unit := ()
def PySem.W.Fast.tw13201608074157038378 : Unit := ()
def PySem.W.Fast.tw13237188977536856421 : Unit := ()
def PySem.W.Fast.tw13252722534868371191 : Unit := ()
def PySem.W.Fast.tw13373305755367878193 : Unit := ()
def PySem.W.Fast.tw13411993831527406207 : Unit := ()
def PySem.W.Fast.tw1346102245503058455 : Unit := ()
def PySem.W.Fast.tw13479546441619765950 : Unit := ()
def PySem.W.Fast.tw13482489321645055408 : Unit := ()
def PySem.W.Fast.tw13518759265032395950 : Unit := ()
def PySem.W.Fast.tw1352929767878420558 : Unit := ()
def PySem.W.Fast.tw13547121059510544813 : Unit := ()
def PySem.W.Fast.tw13592874388309072395 : Unit := ()
def PySem.W.Fast.tw13612974167463664254 : Unit := ()
def PySem.W.Fast.tw13646216084210969501 : Unit := ()
def PySem.W.Fast.tw13721616116133160472 : Unit := ()
def PySem.W.Fast.tw13815396520211291037 : Unit := ()
def PySem.W.Fast.tw13858566315124021272 : Unit := ()
def PySem.W.Fast.tw13905249239874726484 : Unit := ()
def PySem.W.Fast.tw13936588787642821350 : Unit := ()
def PySem.W.Fast.tw13976062730398024072 : Unit := ()
def PySem.W.Fast.tw13989689934546037382 : Unit := ()
def PySem.W.Fast.tw14100416161512888003 : Unit := ()
def PySem.W.Fast.tw14112270301774709455 : Unit := ()
def PySem.W.Fast.tw14131189091604967119 : Unit := ()
def PySem.W.Fast.tw14236148755839485917 : Unit := ()
def PySem.W.Fast.tw14236515902855620192 : Unit := ()
def PySem.W.Fast.tw14278316442189284612 : Unit := ()
def PySem.W.Fast.tw14323049156513224197 : Unit := ()
def PySem.W.Fast.tw14389985469792937530 : Unit := ()
def PySem.W.Fast.tw14401816674116668739 : Unit := ()
def PySem.W.Fast.tw14469622644528681246 : Unit := ()
def PySem.W.Fast.tw14477031883467474075 : Unit := ()
def PySem.W.Fast.tw14786485998022574834 : Unit := ()
def PySem.W.Fast.tw14792421909440028952 : Unit := ()
def PySem.W.Fast.tw14798809588671240374 : Unit := ()
def PySem.W.Fast.tw14807889603604552653 : Unit := ()
def PySem.W.Fast.tw14810237510962845482 : Unit := ()
def PySem.W.Fast.tw14881227087033003736 : Unit := ()
def PySem.W.Fast.tw14895972441701187564 : Unit := ()
def PySem.W.Fast.tw14909944271692177371 : Unit := ()
def PySem.W.Fast.tw14980518239185586093 : Unit := ()
def PySem.W.Fast.tw15044542513953209876 : Unit := ()
def PySem.W.Fast.tw15048351829029348952 : Unit := ()
def PySem.W.Fast.tw15099147600615364698 : Unit := ()
def PySem.W.Fast.tw15114811109347469176 : Unit := ()
def PySem.W.Fast.tw15130824666920065236 : Unit := ()
def PySem.W.Fast.tw15134110332105006719 : Unit := ()
def PySem.W.Fast.tw15142192699085885372 : Unit := ()
def PySem.W.Fast.tw15159025678732520755 : Unit := ()
def PySem.W.Fast.tw15230447133240189620 : Unit := ()
def PySem.W.Fast.tw1525626273307357655 : Unit := ()
def PySem.W.Fast.tw15262503469220084051 : Unit := ()
def PySem.W.Fast.tw1528343115294146088 : Unit := ()
def PySem.W.Fast.tw1530804076105406913 : Unit := ()
def PySem.W.Fast.tw15311486872339234641 : Unit := ()
def PySem.W.Fast.tw15336768696994085272 : Unit := ()
def PySem.W.Fast.tw15374210993953618212 : Unit := ()
def PySem.W.Fast.tw15388808961062218037 : Unit := ()
def PySem.W.Fast.tw15408815531834034666 : Unit := ()
def PySem.W.Fast.tw15414559169913606901 : Unit := ()
def PySem.W.Fast.tw15450595474567956195 : Unit := ()
def PySem.W.Fast.tw15454698881844634953 : Unit := ()
def PySem.W.Fast.tw15500578973431958831 : Unit := ()
def PySem.W.Fast.tw15529349240247161912 : Unit := ()
def PySem.W.Fast.tw15576821011895011984 : Unit := ()
def PySem.W.Fast.tw15621680137803874047 : Unit := ()
def PySem.W.Fast.tw15635883498922846093 : Unit := ()
def PySem.W.Fast.tw15643008356904793661 : Unit := ()
def PySem.W.Fast.tw15720922220803747885 : Unit := ()
def PySem.W.Fast.tw1572510242848995133 : Unit := ()
def PySem.W.Fast.tw15757710767037472944 : Unit := ()
def PySem.W.Fast.tw15770069513885036771 : Unit := ()
def PySem.W.Fast.tw15775297983144349906 : Unit := ()
def PySem.W.Fast.tw15856360058972861221 : Unit := ()
def PySem.W.Fast.tw15890037871712550443 : Unit := ()
def PySem.W.Fast.tw15902071739099113546 : Unit := ()
def PySem.W.Fast.tw15915896241623557472 : Unit := ()
def PySem.W.Fast.tw15918496192289094812 : Unit := ()
def PySem.W.Fast.tw15936874776660029790 : Unit := ()
def PySem.W.Fast.tw15980341775829817211 : Unit := ()
def PySem.W.Fast.tw16066206408351244294 : Unit := ()
def PySem.W.Fast.tw16067271717131850399 : Unit := ()
def PySem.W.Fast.tw16080593726031533528 : Unit := ()
def PySem.W.Fast.tw16118240281208000147 : Unit := ()
def PySem.W.Fast.tw1613393103233430506 : Unit := ()
def PySem.W.Fast.tw16144441010009162333 : Unit := ()
def PySem.W.Fast.tw16157618276863655416 : Unit := ()
def PySem.W.Fast.tw16159220285359429084 : Unit := ()
def PySem.W.Fast.tw16234934235822732202 : Unit := ()
def PySem.W.Fast.tw16261242807972568194 : Unit := ()
def PySem.W.Fast.tw16315292327486493220 : Unit := ()
def PySem.W.Fast.tw16345425565382986160 : Unit := ()
def PySem.W.Fast.tw16374617223769653382 : Unit := ()
def PySem.W.Fast.tw16386659882761091368 : Unit := ()
def PySem.W.Fast.tw16444655359605721020 : Unit := ()
def PySem.W.Fast.tw16451013892304883161 : Unit := ()
def PySem.W.Fast.tw16503628687837237945 : Unit := ()
def PySem.W.Fast.tw16510091737250249933 : Unit := ()
def PySem.W.Fast.tw16528943901000902684 : Unit := ()
def PySem.W.Fast.tw16554486302948160572 : Unit := ()
def PySem.W.Fast.tw16598160125421750168 : Unit := ()
def PySem.W.Fast.tw16629806659749915183 : Unit := ()
def PySem.W.Fast.tw16685645567816243817 : Unit := ()
def PySem.W.Fast.tw16740459583809108973 : Unit := ()
def PySem.W.Fast.tw16792580551052656819 : Unit := ()
def PySem.W.Fast.tw16827117317167110209 : Unit := ()
def PySem.W.Fast.tw16834768973968088033 : Unit := ()
def PySem.W.Fast.tw16838519644180037461 : Unit := ()
def PySem.W.Fast.tw16842522655823320040 : Unit := ()
def PySem.W.Fast.tw16924284936314630357 : Unit := ()
def PySem.W.Fast.tw1692778590968218988 : Unit := ()
def PySem.W.Fast.tw16938512028576512053 : Unit := ()
def PySem.W.Fast.tw16946845948528176149 : Unit := ()
def PySem.W.Fast.tw17052960117098111928 : Unit := ()
def PySem.W.Fast.tw17128178148308223043 : Unit := ()
def PySem.W.Fast.tw17130770276700546444 : Unit := ()
def PySem.W.Fast.tw17186514392782924986 : Unit := ()
def PySem.W.Fast.tw17220962393031409989 : Unit := ()
def PySem.W.Fast.tw1732110056601285899 : Unit := ()
def PySem.W.Fast.tw17349136584849711781 : Unit := ()
def PySem.W.Fast.tw17350628665728453718 : Unit := ()
def PySem.W.Fast.tw17351649288005356304 : Unit := ()
def PySem.W.Fast.tw17377577648129019367 : Unit := ()
def PySem.W.Fast.tw1747974115699162042 : Unit := ()
def PySem.W.Fast.tw17491182430175402276 : Unit := ()
def PySem.W.Fast.tw17496613169626057684 : Unit := ()
def PySem.W.Fast.tw17578076708218705865 : Unit := ()
def PySem.W.Fast.tw1758030410109294499 : Unit := ()
def PySem.W.Fast.tw17618297260343330407 : Unit := ()
def PySem.W.Fast.tw17643925115899608466 : Unit := ()
def PySem.W.Fast.tw17656843594250048150 : Unit := ()
def PySem.W.Fast.tw1768626718778918765 : Unit := ()
def PySem.W.Fast.tw17692484490693440237 : Unit := ()
def PySem.W.Fast.tw17753617689095882971 : Unit := ()
def PySem.W.Fast.tw17758225511156365247 : Unit := ()
def PySem.W.Fast.tw17810894995780230605 : Unit := ()
def PySem.W.Fast.tw17841996371942684721 : Unit := ()
def PySem.W.Fast.tw17915329601951688117 : Unit := ()
def PySem.W.Fast.tw17933845409543078391 : Unit := ()
def PySem.W.Fast.tw17970507753169952116 : Unit := ()
def PySem.W.Fast.tw1797777615430364334 : Unit := ()
def PySem.W.Fast.tw18009257675553570243 : Unit := ()
def PySem.W.Fast.tw18013327428666617506 : Unit := ()
def PySem.W.Fast.tw18026494752190789943 : Unit := ()
def PySem.W.Fast.tw18035757609768423899 : Unit := ()
def PySem.W.Fast.tw18049928715492372461 : Unit := ()
def PySem.W.Fast.tw1805482782330324010 : Unit := ()
def PySem.W.Fast.tw18063685192240532388 : Unit := ()
def PySem.W.Fast.tw18071605811063328746 : Unit := ()
def PySem.W.Fast.tw18096541540816663469 : Unit := ()
def PySem.W.Fast.tw18109215548409444675 : Unit := ()
def PySem.W.Fast.tw18124257365016554814 : Unit := ()
def PySem.W.Fast.tw18141628244014289864 : Unit := ()
def PySem.W.Fast.tw18144212008042271263 : Unit := ()
def PySem.W.Fast.tw18144596846378056070 : Unit := ()
def PySem.W.Fast.tw18154711408932626379 : Unit := ()
def PySem.W.Fast.tw18178774791691625879 : Unit := ()
def PySem.W.Fast.tw18269262837299639587 : Unit := ()
def PySem.W.Fast.tw18316545581555981347 : Unit := ()
def PySem.W.Fast.tw18324660186949602075 : Unit := ()
def PySem.W.Fast.tw18407397179666200395 : Unit := ()
def PySem.W.Fast.tw18439695506165166384 : Unit := ()
def PySem.W.Fast.tw1860639341486603832 : Unit := ()
def PySem.W.Fast.tw189051329081832789 : Unit := ()
def PySem.W.Fast.tw189512937026725301 : Unit := ()
def PySem.W.Fast.tw1934337531282310994 : Unit := ()
def PySem.W.Fast.tw2077918972715085706 : Unit := ()
def PySem.W.Fast.tw2100545045570609024 : Unit := ()
def PySem.W.Fast.tw216623412454207122 : Unit := ()
def PySem.W.Fast.tw2218304599456320306 : Unit := ()
def PySem.W.Fast.tw2235457990215808821 : Unit := ()
def PySem.W.Fast.tw2242140034865339500 : Unit := ()
def PySem.W.Fast.tw2263782668279202777 : Unit := ()
def PySem.W.Fast.tw2283880535409427496 : Unit := ()
def PySem.W.Fast.tw2285356368477327014 : Unit := ()
def PySem.W.Fast.tw2292674324803785913 : Unit := ()
def PySem.W.Fast.tw2353427859002472888 : Unit := ()
def PySem.W.Fast.tw2375003563011289632 : Unit := ()
def PySem.W.Fast.tw2393111010699930824 : Unit := ()
def PySem.W.Fast.tw241411130484178514 : Unit := ()
def PySem.W.Fast.tw2454175633606782670 : Unit := ()
def PySem.W.Fast.tw2463369282665110398 : Unit := ()
def PySem.W.Fast.tw2467066842096971815 : Unit := ()
def PySem.W.Fast.tw2474425681602410505 : Unit := ()
def PySem.W.Fast.tw2519257641069795265 : Unit := ()
def PySem.W.Fast.tw2546588087239166017 : Unit := ()
def PySem.W.Fast.tw2564758938821601626 : Unit := ()
def PySem.W.Fast.tw2567505918852914397 : Unit := ()
def PySem.W.Fast.tw257090161829108014 : Unit := ()
def PySem.W.Fast.tw2574972883179879278 : Unit := ()
def PySem.W.Fast.tw2583000549521351154 : Unit := ()
def PySem.W.Fast.tw2588207176041695389 : Unit := ()
def PySem.W.Fast.tw2686884811838420010 : Unit := ()
def PySem.W.Fast.tw2710811910464291163 : Unit := ()
def PySem.W.Fast.tw2713391015867282134 : Unit := ()
def PySem.W.Fast.tw275644157391625005 : Unit := ()
def PySem.W.Fast.tw2763615581387604596 : Unit := ()
def PySem.W.Fast.tw2815086144365667930 : Unit := ()
def PySem.W.Fast.tw2825578854098591368 : Unit := ()
def PySem.W.Fast.tw2837337161349653770 : Unit := ()
def PySem.W.Fast.tw2909302629722537361 : Unit := ()
def PySem.W.Fast.tw3130293730917922648 : Unit := ()
def PySem.W.Fast.tw3149297641501028802 : Unit := ()
def PySem.W.Fast.tw3153678423119470664 : Unit := ()
def PySem.W.Fast.tw3192534188201600915 : Unit := ()
def PySem.W.Fast.tw3194391430528201029 : Unit := ()
def PySem.W.Fast.tw3211556125120820797 : Unit := ()
def PySem.W.Fast.tw3266108365087016234 : Unit := ()
def PySem.W.Fast.tw3294416980227149451 : Unit := ()
def PySem.W.Fast.tw3296502570828063234 : Unit := ()
def PySem.W.Fast.tw3299061618016881938 : Unit := ()
def PySem.W.Fast.tw3318112914219155707 : Unit := ()
def PySem.W.Fast.tw3347869378593446458 : Unit := ()
def PySem.W.Fast.tw3372185084645650887 : Unit := ()
def PySem.W.Fast.tw3400901257566925638 : Unit := ()
def PySem.W.Fast.tw346467576998546825 : Unit := ()
def PySem.W.Fast.tw3474759010631038527 : Unit := ()
def PySem.W.Fast.tw3521679981999542110 : Unit := ()
def PySem.W.Fast.tw3525983397388225949 : Unit := ()
def PySem.W.Fast.tw3587994795430716209 : Unit := ()
def PySem.W.Fast.tw3663066026511762490 : Unit := ()
def PySem.W.Fast.tw3692062209076664588 : Unit := ()
def PySem.W.Fast.tw3710222903014456713 : Unit := ()
def PySem.W.Fast.tw3730285794912264852 : Unit := ()
def PySem.W.Fast.tw3748481246845334683 : Unit := ()
def PySem.W.Fast.tw3840357160755983501 : Unit := ()
def PySem.W.Fast.tw3858479618693611125 : Unit := ()
def PySem.W.Fast.tw3858809305572093081 : Unit := ()
def PySem.W.Fast.tw3894648001851755773 : Unit := ()
def PySem.W.Fast.tw392408743741947518 : Unit := ()
def PySem.W.Fast.tw3942255154289414708 : Unit := ()
def PySem.W.Fast.tw4069152414077914884 : Unit := ()
def PySem.W.Fast.tw4092734752409761229 : Unit := ()
def PySem.W.Fast.tw4157454396046722930 : Unit := ()
def PySem.W.Fast.tw4198127505269272921 : Unit := ()
def PySem.W.Fast.tw4198515213479494614 : Unit := ()
def PySem.W.Fast.tw4202545149947247015 : Unit := ()
def PySem.W.Fast.tw4245497923984194638 : Unit := ()
def PySem.W.Fast.tw4252082974956203984 : Unit := ()
def PySem.W.Fast.tw4259577932751309581 : Unit := ()
def PySem.W.Fast.tw4267910315794271444 : Unit := ()
def PySem.W.Fast.tw4289745433005489839 : Unit := ()
def PySem.W.Fast.tw4309744101732852403 : Unit := ()
def PySem.W.Fast.tw4316348657870240860 : Unit := ()
def PySem.W.Fast.tw4336513348706255303 : Unit := ()
def PySem.W.Fast.tw436195409062897051 : Unit := ()
def PySem.W.Fast.tw4381148146526266316 : Unit := ()
def PySem.W.Fast.tw4395208298597425944 : Unit := ()
def PySem.W.Fast.tw4463688226312593869 : Unit := ()
def PySem.W.Fast.tw4501825119797696670 : Unit := ()
def PySem.W.Fast.tw4503000359514951614 : Unit := ()
def PySem.W.Fast.tw452920363942090252 : Unit := ()
def PySem.W.Fast.tw4563051787836502023 : Unit := ()
def PySem.W.Fast.tw4622248960093103232 : Unit := ()
def PySem.W.Fast.tw4706668666799816007 : Unit := ()
def PySem.W.Fast.tw4778135423288812952 : Unit := ()
def PySem.W.Fast.tw4937510333376632347 : Unit := ()
def PySem.W.Fast.tw4968391436287447708 : Unit := ()
def PySem.W.Fast.tw4994925831940522693 : Unit := ()
def PySem.W.Fast.tw5001581548078824509 : Unit := ()
def PySem.W.Fast.tw5029686951003514140 : Unit := ()
def PySem.W.Fast.tw5076028846397564448 : Unit := ()
def PySem.W.Fast.tw5107725242853446689 : Unit := ()
def PySem.W.Fast.tw5137906124859839974 : Unit := ()
def PySem.W.Fast.tw5148185497235095749 : Unit := ()
def PySem.W.Fast.tw5170827278070487288 : Unit := ()
def PySem.W.Fast.tw5179755862377506260 : Unit := ()
def PySem.W.Fast.tw5201548579648852449 : Unit := ()
def PySem.W.Fast.tw5227304753388920740 : Unit := ()
def PySem.W.Fast.tw5230078493282192755 : Unit := ()
def PySem.W.Fast.tw5238722414708438534 : Unit := ()
def PySem.W.Fast.tw5250713809702204333 : Unit := ()
def PySem.W.Fast.tw5347762056874032909 : Unit := ()
def PySem.W.Fast.tw5395612212600199204 : Unit := ()
def PySem.W.Fast.tw5424543845091864146 : Unit := ()
def PySem.W.Fast.tw542845491581579545 : Unit := ()
def PySem.W.Fast.tw5429704818381540019 : Unit := ()
def PySem.W.Fast.tw5458151690497141272 : Unit := ()
def PySem.W.Fast.tw5496298531391929314 : Unit := ()
def PySem.W.Fast.tw558552637376884655 : Unit := ()
def PySem.W.Fast.tw5637571048144683276 : Unit := ()
def PySem.W.Fast.tw564850001201656118 : Unit := ()
def PySem.W.Fast.tw5660047450233076852 : Unit := ()
def PySem.W.Fast.tw5694113882356220575 : Unit := ()
def PySem.W.Fast.tw5701056040753601878 : Unit := ()
def PySem.W.Fast.tw5706943168641349060 : Unit := ()
def PySem.W.Fast.tw5712501295096996860 : Unit := ()
def PySem.W.Fast.tw5717775576315537565 : Unit := ()
def PySem.W.Fast.tw5751704238206820788 : Unit := ()
def PySem.W.Fast.tw5765231015235333547 : Unit := ()
def PySem.W.Fast.tw5781172390911241586 : Unit := ()
def PySem.W.Fast.tw5812590873268542478 : Unit := ()
def PySem.W.Fast.tw5859713532974775684 : Unit := ()
def PySem.W.Fast.tw595864738504319789 : Unit := ()
def PySem.W.Fast.tw6018039369408022340 : Unit := ()
def PySem.W.Fast.tw602487603436258730 : Unit := ()
def PySem.W.Fast.tw6040535401056046672 : Unit := ()
def PySem.W.Fast.tw6052725492421180448 : Unit := ()
def PySem.W.Fast.tw6081641892696922529 : Unit := ()
def PySem.W.Fast.tw6085766395161446989 : Unit := ()
def PySem.W.Fast.tw610212800984160872 : Unit := ()
def PySem.W.Fast.tw6117120015747834960 : Unit := ()
def PySem.W.Fast.tw6133221722359667100 : Unit := ()
def PySem.W.Fast.tw6172851518581266441 : Unit := ()
def PySem.W.Fast.tw6185953967672596969 : Unit := ()
def PySem.W.Fast.tw6235563168945119718 : Unit := ()
def PySem.W.Fast.tw6269975436701613555 : Unit := ()
def PySem.W.Fast.tw6290239247082605648 : Unit := ()
def PySem.W.Fast.tw6326188187349416488 : Unit := ()
def PySem.W.Fast.tw637391784049397645 : Unit := ()
def PySem.W.Fast.tw6380688334827197617 : Unit := ()
def PySem.W.Fast.tw642268923912450035 : Unit := ()
def PySem.W.Fast.tw6494653924320545511 : Unit := ()
def PySem.W.Fast.tw6546270938716700858 : Unit := ()
def PySem.W.Fast.tw6572308963434639544 : Unit := ()
def PySem.W.Fast.tw6601472894366346448 : Unit := ()
def PySem.W.Fast.tw6624074193539721261 : Unit := ()
def PySem.W.Fast.tw664324880642678714 : Unit := ()
def PySem.W.Fast.tw6689600324609217814 : Unit := ()
def PySem.W.Fast.tw6725585506511237736 : Unit := ()
def PySem.W.Fast.tw6739146447977174917 : Unit := ()
def PySem.W.Fast.tw6777191582940508735 : Unit := ()
def PySem.W.Fast.tw6834794565641396942 : Unit := ()
def PySem.W.Fast.tw692176754823244328 : Unit := ()
def PySem.W.Fast.tw6974586542503182017 : Unit := ()
def PySem.W.Fast.tw7015443819524219071 : Unit := ()
def PySem.W.Fast.tw7060254273719132930 : Unit := ()
def PySem.W.Fast.tw707700753938113771 : Unit := ()
def PySem.W.Fast.tw7138314441659956082 : Unit := ()
def PySem.W.Fast.tw7199923128716164183 : Unit := ()
def PySem.W.Fast.tw7243446934147178358 : Unit := ()
def PySem.W.Fast.tw7257366413739472833 : Unit := ()
def PySem.W.Fast.tw7275923671740762799 : Unit := ()
def PySem.W.Fast.tw7412311705854135293 : Unit := ()
def PySem.W.Fast.tw7452847806052591392 : Unit := ()
def PySem.W.Fast.tw7456848780383056364 : Unit := ()
def PySem.W.Fast.tw7480460324957099429 : Unit := ()
def PySem.W.Fast.tw7630924502223203424 : Unit := ()
def PySem.W.Fast.tw7654920217455455894 : Unit := ()
def PySem.W.Fast.tw766784664389125147 : Unit := ()
def PySem.W.Fast.tw7698288826603335343 : Unit := ()
def PySem.W.Fast.tw7745559341578506241 : Unit := ()
def PySem.W.Fast.tw7764311674535913310 : Unit := ()
def PySem.W.Fast.tw7777137328016330860 : Unit := ()
def PySem.W.Fast.tw779400258147794956 : Unit := ()
def PySem.W.Fast.tw7801462544256848141 : Unit := ()
def PySem.W.Fast.tw7840199522398750253 : Unit := ()
def PySem.W.Fast.tw7855861432508160224 : Unit := ()
def PySem.W.Fast.tw7906699889088806437 : Unit := ()
def PySem.W.Fast.tw7918368621408060834 : Unit := ()
def PySem.W.Fast.tw7929353493317135488 : Unit := ()
def PySem.W.Fast.tw7931871985915053066 : Unit := ()
def PySem.W.Fast.tw7993253058036006500 : Unit := ()
def PySem.W.Fast.tw8101377030842941269 : Unit := ()
def PySem.W.Fast.tw8102474273391904491 : Unit := ()
def PySem.W.Fast.tw8127833598510040904 : Unit := ()
def PySem.W.Fast.tw8133945312020905235 : Unit := ()
def PySem.W.Fast.tw8138569070371287567 : Unit := ()
def PySem.W.Fast.tw8147610678493290262 : Unit := ()
def PySem.W.Fast.tw8161533969604031969 : Unit := ()
def PySem.W.Fast.tw8249782059860720764 : Unit := ()
def PySem.W.Fast.tw8274831472095104170 : Unit := ()
def PySem.W.Fast.tw827660058039480981 : Unit := ()
def PySem.W.Fast.tw8293513452558127920 : Unit := ()
def PySem.W.Fast.tw8324688634006479963 : Unit := ()
def PySem.W.Fast.tw8368188443348108430 : Unit := ()
def PySem.W.Fast.tw8414060555514148425 : Unit := ()
def PySem.W.Fast.tw8461253873406041910 : Unit := ()
def PySem.W.Fast.tw8493656078705860757 : Unit := ()
def PySem.W.Fast.tw8556241297749771611 : Unit := ()
def PySem.W.Fast.tw8618868229840738877 : Unit := ()
def PySem.W.Fast.tw8632777884242249268 : Unit := ()
def PySem.W.Fast.tw8679771265866873583 : Unit := ()
def PySem.W.Fast.tw8681676704280821956 : Unit := ()
def PySem.W.Fast.tw8718554194991275201 : Unit := ()
def PySem.W.Fast.tw8835336473462066636 : Unit := ()
def PySem.W.Fast.tw8840293191747879 : Unit := ()
def PySem.W.Fast.tw8890489089958495624 : Unit := ()
def PySem.W.Fast.tw8936547134509583168 : Unit := ()
def PySem.W.Fast.tw8982700207408964083 : Unit := ()
def PySem.W.Fast.tw8984019096722476361 : Unit := ()
def PySem.W.Fast.tw8994927542492475647 : Unit := ()
def PySem.W.Fast.tw9066971150279255958 : Unit := ()
def PySem.W.Fast.tw9209819331172136577 : Unit := ()
def PySem.W.Fast.tw9229492703693662632 : Unit := ()
def PySem.W.Fast.tw927361737417572862 : Unit := ()
def PySem.W.Fast.tw9397742234897879219 : Unit := ()
def PySem.W.Fast.tw9402919523843856018 : Unit := ()
def PySem.W.Fast.tw9408416516264653929 : Unit := ()
def PySem.W.Fast.tw942013041456718426 : Unit := ()
def PySem.W.Fast.tw950063069875452512 : Unit := ()
def PySem.W.Fast.tw9504655167163732484 : Unit := ()
def PySem.W.Fast.tw9521165980754127588 : Unit := ()
def PySem.W.Fast.tw9564011163232555806 : Unit := ()
def PySem.W.Fast.tw9591000860489670720 : Unit := ()
def PySem.W.Fast.tw959696378554898998 : Unit := ()
def PySem.W.Fast.tw9621769844162010764 : Unit := ()
def PySem.W.Fast.tw9654066629532826298 : Unit := ()
def PySem.W.Fast.tw9671011849119640278 : Unit := ()
def PySem.W.Fast.tw9679326732081324600 : Unit := ()
def PySem.W.Fast.tw9682057464896635969 : Unit := ()
def PySem.W.Fast.tw9734462918055779494 : Unit := ()
def PySem.W.Fast.tw9738060982690388252 : Unit := ()
def PySem.W.Fast.tw9742582915157245572 : Unit := ()
def PySem.W.Fast.tw9746592746110859493 : Unit := ()
def PySem.W.Fast.tw9764756457354264246 : Unit := ()
def PySem.W.Fast.tw9787958681973217224 : Unit := ()
def PySem.W.Fast.tw981710795285246548 : Unit := ()
def PySem.W.Fast.tw9826221460391580813 : Unit := ()
def PySem.W.Fast.tw9865339670349336225 : Unit := ()
def PySem.W.Fast.tw9870058995877064225 : Unit := ()
def PySem.W.Fast.tw9889216015577182124 : Unit := ()
def PySem.W.Fast.tw9891053202909262091 : Unit := ()
def PySem.W.Fast.tw9964151558238432340 : Unit := ()
def PySem.W.Fast.tw9968945508479206573 : Unit := ()
open PySem PySem.W PyProof.Rows
set_option maxRecDepth 100000 in
set_option maxHeartbeats 0 in
theorem PySem.Challenge.cw_tidinghall_k20_whole_packets_holds : PySem.Challenge.rw_tidinghall_k20_whole_packets.Holds := by
  w_on; o_law; k_head; (case hw => w_witness2)
  k_fill
  refine Tx.walk Tx.law_true (l := PySem.Challenge.rw_tidinghall_k20_whole_packets) rfl rfl (fun w h Y => PySem.W.kIn_of Y) ?F
  case F =>
    intro w mg fa h KX G hmg
    refine' Tx.all_mk KX G hmg ?aC_Bytes ?kC_Bytes ?aC_TidingError ?kC_TidingError ?aC_BadName ?kC_BadName ?aC_BadPacket ?kC_BadPacket ?aC_BadBytes ?kC_BadBytes ?aC_BadLine ?kC_BadLine ?aC_BadText ?kC_BadText ?a_is_level ?l_is_level ?c_is_level ?k_is_level ?a_look_hearer ?l_look_hearer ?c_look_hearer ?k_look_hearer ?a_look_grade ?l_look_grade ?c_look_grade ?k_look_grade ?a_kind_number ?l_kind_number ?c_kind_number ?k_kind_number ?a_must ?l_must ?c_must ?k_must ?a_is_body ?l_is_body ?c_is_body ?k_is_body ?a_is_id ?l_is_id ?c_is_id ?k_is_id ?a_id_bytes ?l_id_bytes ?c_id_bytes ?k_id_bytes ?a_length_bytes ?l_length_bytes ?c_length_bytes ?k_length_bytes ?a_Bytes_init ?i_Bytes_init ?l_Bytes_init ?c_Bytes_init ?k_Bytes_init ?a_Bytes_is_end ?i_Bytes_is_end ?l_Bytes_is_end ?c_Bytes_is_end ?k_Bytes_is_end ?a_head_of ?l_head_of ?c_head_of ?k_head_of ?a_law_cell ?l_law_cell ?c_law_cell ?k_law_cell ?a_law_refusal ?l_law_refusal ?c_law_refusal ?k_law_refusal ?a_law_codes ?l_law_codes ?c_law_codes ?k_law_codes ?a_look_name ?l_look_name ?c_look_name ?k_look_name ?a_look_wish ?l_look_wish ?c_look_wish ?k_look_wish ?a_text_bytes ?l_text_bytes ?c_text_bytes ?k_text_bytes ?a_Bytes_byte ?i_Bytes_byte ?l_Bytes_byte ?c_Bytes_byte ?k_Bytes_byte ?a_law_mix ?l_law_mix ?c_law_mix ?k_law_mix ?a_law_counted ?l_law_counted ?c_law_counted ?k_law_counted ?a_look_tiding ?l_look_tiding ?c_look_tiding ?k_look_tiding ?a_look_some ?l_look_some ?c_look_some ?k_look_some ?a_will_bytes ?l_will_bytes ?c_will_bytes ?k_will_bytes ?a_Bytes_number ?i_Bytes_number ?l_Bytes_number ?c_Bytes_number ?k_Bytes_number ?a_Bytes_text ?i_Bytes_text ?l_Bytes_text ?c_Bytes_text ?k_Bytes_text ?a_law_draw ?l_law_draw ?c_law_draw ?k_law_draw ?a_law_rest ?l_law_rest ?c_law_rest ?k_law_rest ?a_look_say ?l_look_say ?c_look_say ?k_look_say ?a_rest_bytes ?l_rest_bytes ?c_rest_bytes ?k_rest_bytes ?a_Bytes_counted ?i_Bytes_counted ?l_Bytes_counted ?c_Bytes_counted ?k_Bytes_counted ?a_law_pick ?l_law_pick ?c_law_pick ?k_law_pick ?a_law_bytes ?l_law_bytes ?c_law_bytes ?k_law_bytes ?a_look_whole ?l_look_whole ?c_look_whole ?k_look_whole ?a_read_connect ?l_read_connect ?c_read_connect ?k_read_connect ?a_read_say ?l_read_say ?c_read_say ?k_read_say ?a_read_some ?l_read_some ?c_read_some ?k_read_some ?a_law_signs ?l_law_signs ?c_law_signs ?k_law_signs ?a_law_hearer ?l_law_hearer ?c_law_hearer ?k_law_hearer ?a_law_id ?l_law_id ?c_law_id ?k_law_id ?a_law_bad ?l_law_bad ?c_law_bad ?k_law_bad ?a_look_packet ?l_look_packet ?c_look_packet ?k_look_packet ?a_read_rest ?l_read_rest ?c_read_rest ?k_read_rest ?a_law_level ?l_law_level ?c_law_level ?k_law_level ?a_law_body ?l_law_body ?c_law_body ?k_law_body ?a_written_packet ?l_written_packet ?c_written_packet ?k_written_packet ?a_law_name ?l_law_name ?c_law_name ?k_law_name ?a_law_wish ?l_law_wish ?c_law_wish ?k_law_wish ?a_read_packet ?l_read_packet ?c_read_packet ?k_read_packet ?a_law_tiding ?l_law_tiding ?c_law_tiding ?k_law_tiding ?a_law_packet ?l_law_packet ?c_law_packet ?k_law_packet ?a_law_told ?l_law_told ?c_law_told ?k_law_told ?a_law ?l_law ?c_law ?k_law ?pg_Bytes ?hd_Bytes ?po_Bytes ?sa_Bytes ?mk_Bytes ?n_Bytes_row ?n_Bytes_spot ?x_TidingError ?b_TidingError ?t_TidingError ?x_BadName ?b_BadName ?t_BadName ?x_BadPacket ?b_BadPacket ?t_BadPacket ?x_BadBytes ?b_BadBytes ?t_BadBytes ?x_BadLine ?b_BadLine ?t_BadLine ?x_BadText ?b_BadText ?t_BadText ?zm_BadName_BadName ?zn_TidingError_BadName ?zn_BadPacket_BadName ?zn_BadBytes_BadName ?zn_BadLine_BadName ?zn_BadText_BadName ?zm_BadPacket_BadPacket ?zn_TidingError_BadPacket ?zn_BadName_BadPacket ?zn_BadBytes_BadPacket ?zn_BadLine_BadPacket ?zn_BadText_BadPacket ?zm_TidingError_TidingError ?zm_BadName_TidingError ?zm_BadPacket_TidingError ?zm_BadBytes_TidingError ?zm_BadLine_TidingError ?zm_BadText_TidingError ?hn0 ?ht0 ?e1_TidingError ?e2_TidingError ?e3_TidingError ?e4_TidingError ?e5_TidingError ?e1_BadName ?e2_BadName ?e3_BadName ?e4_BadName ?e5_BadName ?e1_BadPacket ?e2_BadPacket ?e3_BadPacket ?e4_BadPacket ?e5_BadPacket ?e1_BadBytes ?e2_BadBytes ?e3_BadBytes ?e4_BadBytes ?e5_BadBytes ?e1_BadLine ?e2_BadLine ?e3_BadLine ?e4_BadLine ?e5_BadLine ?e1_BadText ?e2_BadText ?e3_BadText ?e4_BadText ?e5_BadText ?zk_TidingError_BadName ?zk_BadName_BadName ?zk_BadPacket_BadName ?zk_BadBytes_BadName ?zk_BadLine_BadName ?zk_BadText_BadName ?zk_TidingError_BadPacket ?zk_BadName_BadPacket ?zk_BadPacket_BadPacket ?zk_BadBytes_BadPacket ?zk_BadLine_BadPacket ?zk_BadText_BadPacket ?zk_TidingError_BadBytes ?zk_BadName_BadBytes ?zk_BadPacket_BadBytes ?zk_BadBytes_BadBytes ?zk_BadLine_BadBytes ?zk_BadText_BadBytes ?zk_TidingError_BadLine ?zk_BadName_BadLine ?zk_BadPacket_BadLine ?zk_BadBytes_BadLine ?zk_BadLine_BadLine ?zk_BadText_BadLine ?zk_TidingError_BadText ?zk_BadName_BadText ?zk_BadPacket_BadText ?zk_BadBytes_BadText ?zk_BadLine_BadText ?zk_BadText_BadText ?zk_TidingError_ValueError ?zk_BadName_ValueError ?zk_BadPacket_ValueError ?zk_BadBytes_ValueError ?zk_BadLine_ValueError ?zk_BadText_ValueError ?n_ValueError ?n_all ?n_int ?n_isinstance ?n_len ?n_list ?n_ord ?n_range ?n_tuple ?v_MOST_LEVELS ?v_MOST_SIGNS ?v_SMALL ?v_MOST_BODY ?v_MOST_ID ?v_MOST_WISHES ?v_MOST_REST ?v_REFUSED ?v_SIGNS ?v_KINDS ?lk_KINDS ?iv_KINDS ?v_MORE_KINDS ?lk_MORE_KINDS ?iv_MORE_KINDS ?v_LENGTHS ?lk_LENGTHS ?iv_sys_LENGTHS ?iv_ky_LENGTHS ?iv_vl_LENGTHS ?v_MORE_LENGTHS ?lk_MORE_LENGTHS ?iv_sys_MORE_LENGTHS ?iv_ky_MORE_LENGTHS ?iv_vl_MORE_LENGTHS
    (case aC_Bytes => k_is)
    (case kC_Bytes => k_is)
    (case aC_TidingError => k_is)
    (case kC_TidingError => k_is)
    (case aC_BadName => k_is)
    (case kC_BadName => k_is)
    (case aC_BadPacket => k_is)
    (case kC_BadPacket => k_is)
    (case aC_BadBytes => k_is)
    (case kC_BadBytes => k_is)
    (case aC_BadLine => k_is)
    (case kC_BadLine => k_is)
    (case aC_BadText => k_is)
    (case kC_BadText => k_is)
    (case a_is_level => k_is)
    (case l_is_level => k_is)
    (case c_is_level => k_is)
    (case k_is_level => k_is)
    (case a_look_hearer => k_is)
    (case l_look_hearer => k_is)
    (case c_look_hearer => k_is)
    (case k_look_hearer => k_is)
    (case a_look_grade => k_is)
    (case l_look_grade => k_is)
    (case c_look_grade => k_is)
    (case k_look_grade => k_is)
    (case a_kind_number => k_is)
    (case l_kind_number => k_is)
    (case c_kind_number => k_is)
    (case k_kind_number => k_is)
    (case a_must => k_is)
    (case l_must => k_is)
    (case c_must => k_is)
    (case k_must => k_is)
    (case a_is_body => k_is)
    (case l_is_body => k_is)
    (case c_is_body => k_is)
    (case k_is_body => k_is)
    (case a_is_id => k_is)
    (case l_is_id => k_is)
    (case c_is_id => k_is)
    (case k_is_id => k_is)
    (case a_id_bytes => k_is)
    (case l_id_bytes => k_is)
    (case c_id_bytes => k_is)
    (case k_id_bytes => k_is)
    (case a_length_bytes => k_is)
    (case l_length_bytes => k_is)
    (case c_length_bytes => k_is)
    (case k_length_bytes => k_is)
    (case a_Bytes_init => k_is)
    (case i_Bytes_init => k_is)
    (case l_Bytes_init => k_is)
    (case c_Bytes_init => k_is)
    (case k_Bytes_init => k_is)
    (case a_Bytes_is_end => k_is)
    (case i_Bytes_is_end => k_is)
    (case l_Bytes_is_end => k_is)
    (case c_Bytes_is_end => k_is)
    (case k_Bytes_is_end => k_is)
    (case a_head_of => k_is)
    (case l_head_of => k_is)
    (case c_head_of => k_is)
    (case k_head_of => k_is)
    (case a_law_cell => k_is)
    (case l_law_cell => k_is)
    (case c_law_cell => k_is)
    (case k_law_cell => k_is)
    (case a_law_refusal => k_is)
    (case l_law_refusal => k_is)
    (case c_law_refusal => k_is)
    (case k_law_refusal => k_is)
    (case a_law_codes => k_is)
    (case l_law_codes => k_is)
    (case c_law_codes => k_is)
    (case k_law_codes => k_is)
    (case a_look_name => k_is)
    (case l_look_name => k_is)
    (case c_look_name => k_is)
    (case k_look_name => k_is)
    (case a_look_wish => k_is)
    (case l_look_wish => k_is)
    (case c_look_wish => k_is)
    (case k_look_wish => k_is)
    (case a_text_bytes => k_is)
    (case l_text_bytes => k_is)
    (case c_text_bytes => k_is)
    (case k_text_bytes => k_is)
    (case a_Bytes_byte => k_is)
    (case i_Bytes_byte => k_is)
    (case l_Bytes_byte => k_is)
    (case c_Bytes_byte => k_is)
    (case k_Bytes_byte => k_is)
    (case a_law_mix => k_is)
    (case l_law_mix => k_is)
    (case c_law_mix => k_is)
    (case k_law_mix => k_is)
    (case a_law_counted => k_is)
    (case l_law_counted => k_is)
    (case c_law_counted => k_is)
    (case k_law_counted => k_is)
    (case a_look_tiding => k_is)
    (case l_look_tiding => k_is)
    (case c_look_tiding => k_is)
    (case k_look_tiding => k_is)
    (case a_look_some => k_is)
    (case l_look_some => k_is)
    (case c_look_some => k_is)
    (case k_look_some => k_is)
    (case a_will_bytes => k_is)
    (case l_will_bytes => k_is)
    (case c_will_bytes => k_is)
    (case k_will_bytes => k_is)
    (case a_Bytes_number => k_is)
    (case i_Bytes_number => k_is)
    (case l_Bytes_number => k_is)
    (case c_Bytes_number => k_is)
    (case k_Bytes_number => k_is)
    (case a_Bytes_text => k_is)
    (case i_Bytes_text => k_is)
    (case l_Bytes_text => k_is)
    (case c_Bytes_text => k_is)
    (case k_Bytes_text => k_is)
    (case a_law_draw => k_is)
    (case l_law_draw => k_is)
    (case c_law_draw => k_is)
    (case k_law_draw => k_is)
    (case a_law_rest => k_is)
    (case l_law_rest => k_is)
    (case c_law_rest => k_is)
    (case k_law_rest => k_is)
    (case a_look_say => k_is)
    (case l_look_say => k_is)
    (case c_look_say => k_is)
    (case k_look_say => k_is)
    (case a_rest_bytes => k_is)
    (case l_rest_bytes => k_is)
    (case c_rest_bytes => k_is)
    (case k_rest_bytes => k_is)
    (case a_Bytes_counted => k_is)
    (case i_Bytes_counted => k_is)
    (case l_Bytes_counted => k_is)
    (case c_Bytes_counted => k_is)
    (case k_Bytes_counted => k_is)
    (case a_law_pick => k_is)
    (case l_law_pick => k_is)
    (case c_law_pick => k_is)
    (case k_law_pick => k_is)
    (case a_law_bytes => k_is)
    (case l_law_bytes => k_is)
    (case c_law_bytes => k_is)
    (case k_law_bytes => k_is)
    (case a_look_whole => k_is)
    (case l_look_whole => k_is)
    (case c_look_whole => k_is)
    (case k_look_whole => k_is)
    (case a_read_connect => k_is)
    (case l_read_connect => k_is)
    (case c_read_connect => k_is)
    (case k_read_connect => k_is)
    (case a_read_say => k_is)
    (case l_read_say => k_is)
    (case c_read_say => k_is)
    (case k_read_say => k_is)
    (case a_read_some => k_is)
    (case l_read_some => k_is)
    (case c_read_some => k_is)
    (case k_read_some => k_is)
    (case a_law_signs => k_is)
    (case l_law_signs => k_is)
    (case c_law_signs => k_is)
    (case k_law_signs => k_is)
    (case a_law_hearer => k_is)
    (case l_law_hearer => k_is)
    (case c_law_hearer => k_is)
    (case k_law_hearer => k_is)
    (case a_law_id => k_is)
    (case l_law_id => k_is)
    (case c_law_id => k_is)
    (case k_law_id => k_is)
    (case a_law_bad => k_is)
    (case l_law_bad => k_is)
    (case c_law_bad => k_is)
    (case k_law_bad => k_is)
    (case a_look_packet => k_is)
    (case l_look_packet => k_is)
    (case c_look_packet => k_is)
    (case k_look_packet => k_is)
    (case a_read_rest => k_is)
    (case l_read_rest => k_is)
    (case c_read_rest => k_is)
    (case k_read_rest => k_is)
    (case a_law_level => k_is)
    (case l_law_level => k_is)
    (case c_law_level => k_is)
    (case k_law_level => k_is)
    (case a_law_body => k_is)
    (case l_law_body => k_is)
    (case c_law_body => k_is)
    (case k_law_body => k_is)
    (case a_written_packet => k_is)
    (case l_written_packet => k_is)
    (case c_written_packet => k_is)
    (case k_written_packet => k_is)
    (case a_law_name => k_is)
    (case l_law_name => k_is)
    (case c_law_name => k_is)
    (case k_law_name => k_is)
    (case a_law_wish => k_is)
    (case l_law_wish => k_is)
    (case c_law_wish => k_is)
    (case k_law_wish => k_is)
    (case a_read_packet => k_is)
    (case l_read_packet => k_is)
    (case c_read_packet => k_is)
    (case k_read_packet => k_is)
    (case a_law_tiding => k_is)
    (case l_law_tiding => k_is)
    (case c_law_tiding => k_is)
    (case k_law_tiding => k_is)
    (case a_law_packet => k_is)
    (case l_law_packet => k_is)
    (case c_law_packet => k_is)
    (case k_law_packet => k_is)
    (case a_law_told => k_is)
    (case l_law_told => k_is)
    (case c_law_told => k_is)
    (case k_law_told => k_is)
    (case a_law => k_is)
    (case l_law => k_is)
    (case c_law => k_is)
    (case k_law => k_is)
    (case pg_Bytes => k_is)
    (case hd_Bytes => k_is)
    (case po_Bytes => k_is)
    (case sa_Bytes => k_is)
    (case mk_Bytes => k_is)
    (case n_Bytes_row => k_is)
    (case n_Bytes_spot => k_is)
    (case x_TidingError => k_exc)
    (case b_TidingError => k_is)
    (case t_TidingError => k_is)
    (case x_BadName => k_exc)
    (case b_BadName => k_is)
    (case t_BadName => k_is)
    (case x_BadPacket => k_exc)
    (case b_BadPacket => k_is)
    (case t_BadPacket => k_is)
    (case x_BadBytes => k_exc)
    (case b_BadBytes => k_is)
    (case t_BadBytes => k_is)
    (case x_BadLine => k_exc)
    (case b_BadLine => k_is)
    (case t_BadLine => k_is)
    (case x_BadText => k_exc)
    (case b_BadText => k_is)
    (case t_BadText => k_is)
    (case zm_BadName_BadName => kts_exm)
    (case zn_TidingError_BadName => kts_exm)
    (case zn_BadPacket_BadName => kts_exm)
    (case zn_BadBytes_BadName => kts_exm)
    (case zn_BadLine_BadName => kts_exm)
    (case zn_BadText_BadName => kts_exm)
    (case zm_BadPacket_BadPacket => kts_exm)
    (case zn_TidingError_BadPacket => kts_exm)
    (case zn_BadName_BadPacket => kts_exm)
    (case zn_BadBytes_BadPacket => kts_exm)
    (case zn_BadLine_BadPacket => kts_exm)
    (case zn_BadText_BadPacket => kts_exm)
    (case zm_TidingError_TidingError => kts_exm)
    (case zm_BadName_TidingError => kts_exm)
    (case zm_BadPacket_TidingError => kts_exm)
    (case zm_BadBytes_TidingError => kts_exm)
    (case zm_BadLine_TidingError => kts_exm)
    (case zm_BadText_TidingError => kts_exm)
    (case hn0 => k_is)
    (case ht0 => k_is)
    (case e1_TidingError => k_is)
    (case e2_TidingError => k_is)
    (case e3_TidingError => k_is)
    (case e4_TidingError => k_is)
    (case e5_TidingError => k_is)
    (case e1_BadName => k_is)
    (case e2_BadName => k_is)
    (case e3_BadName => k_is)
    (case e4_BadName => k_is)
    (case e5_BadName => k_is)
    (case e1_BadPacket => k_is)
    (case e2_BadPacket => k_is)
    (case e3_BadPacket => k_is)
    (case e4_BadPacket => k_is)
    (case e5_BadPacket => k_is)
    (case e1_BadBytes => k_is)
    (case e2_BadBytes => k_is)
    (case e3_BadBytes => k_is)
    (case e4_BadBytes => k_is)
    (case e5_BadBytes => k_is)
    (case e1_BadLine => k_is)
    (case e2_BadLine => k_is)
    (case e3_BadLine => k_is)
    (case e4_BadLine => k_is)
    (case e5_BadLine => k_is)
    (case e1_BadText => k_is)
    (case e2_BadText => k_is)
    (case e3_BadText => k_is)
    (case e4_BadText => k_is)
    (case e5_BadText => k_is)
    (case zk_TidingError_BadName => kit_is)
    (case zk_BadName_BadName => kit_is)
    (case zk_BadPacket_BadName => kit_is)
    (case zk_BadBytes_BadName => kit_is)
    (case zk_BadLine_BadName => kit_is)
    (case zk_BadText_BadName => kit_is)
    (case zk_TidingError_BadPacket => kit_is)
    (case zk_BadName_BadPacket => kit_is)
    (case zk_BadPacket_BadPacket => kit_is)
    (case zk_BadBytes_BadPacket => kit_is)
    (case zk_BadLine_BadPacket => kit_is)
    (case zk_BadText_BadPacket => kit_is)
    (case zk_TidingError_BadBytes => kit_is)
    (case zk_BadName_BadBytes => kit_is)
    (case zk_BadPacket_BadBytes => kit_is)
    (case zk_BadBytes_BadBytes => kit_is)
    (case zk_BadLine_BadBytes => kit_is)
    (case zk_BadText_BadBytes => kit_is)
    (case zk_TidingError_BadLine => kit_is)
    (case zk_BadName_BadLine => kit_is)
    (case zk_BadPacket_BadLine => kit_is)
    (case zk_BadBytes_BadLine => kit_is)
    (case zk_BadLine_BadLine => kit_is)
    (case zk_BadText_BadLine => kit_is)
    (case zk_TidingError_BadText => kit_is)
    (case zk_BadName_BadText => kit_is)
    (case zk_BadPacket_BadText => kit_is)
    (case zk_BadBytes_BadText => kit_is)
    (case zk_BadLine_BadText => kit_is)
    (case zk_BadText_BadText => kit_is)
    (case zk_TidingError_ValueError => kit_is)
    (case zk_BadName_ValueError => kit_is)
    (case zk_BadPacket_ValueError => kit_is)
    (case zk_BadBytes_ValueError => kit_is)
    (case zk_BadLine_ValueError => kit_is)
    (case zk_BadText_ValueError => kit_is)
    (case n_ValueError => k_is)
    (case n_all => k_is)
    (case n_int => k_is)
    (case n_isinstance => k_is)
    (case n_len => k_is)
    (case n_list => k_is)
    (case n_ord => k_is)
    (case n_range => k_is)
    (case n_tuple => k_is)
    (case v_MOST_LEVELS => k_is)
    (case v_MOST_SIGNS => k_is)
    (case v_SMALL => k_is)
    (case v_MOST_BODY => k_is)
    (case v_MOST_ID => k_is)
    (case v_MOST_WISHES => k_is)
    (case v_MOST_REST => k_is)
    (case v_REFUSED => k_is)
    (case v_SIGNS => k_is)
    (case v_KINDS => k_is)
    (case lk_KINDS => k_is)
    (case iv_KINDS => rfl)
    (case v_MORE_KINDS => k_is)
    (case lk_MORE_KINDS => k_is)
    (case iv_MORE_KINDS => rfl)
    (case v_LENGTHS => k_is)
    (case lk_LENGTHS => k_is)
    (case iv_sys_LENGTHS => rfl)
    (case iv_ky_LENGTHS => rfl)
    (case iv_vl_LENGTHS => rfl)
    (case v_MORE_LENGTHS => k_is)
    (case lk_MORE_LENGTHS => k_is)
    (case iv_sys_MORE_LENGTHS => rfl)
    (case iv_ky_MORE_LENGTHS => rfl)
    (case iv_vl_MORE_LENGTHS => rfl)
