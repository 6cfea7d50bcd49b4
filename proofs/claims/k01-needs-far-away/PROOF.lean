import PyProof.Rows.All
import Wide.All
import OpenK.AllK
import Wide.FinOn
import PySem.Challenge.RW_evenrates_k01_whole_needs_far_away
import HandS.ForMost
import HandS.ForExc
import HandS.CallSlots
import HandS.Wide
import HandS.TupAny
import HandS.TupMul
import HandS.IsInst
import KE.KTupSum
import HandS.RaiseMore
import HandS.Style
import HandS.DictComp
import HandS.ExcInit
import HandS.ClsMeth
import HandS.ExcField
import HandS.CallLocal
import HandS.WordsExc
import HandS.Strs
set_option Elab.async false
set_option linter.all false
set_option maxRecDepth 100000
set_option maxHeartbeats 1000000
/-! ML: data without addresses, a store of changeable objects, and what a piece of Python does to them, as a Lean function. -/
namespace ML
open PySem PySem.Spec L2
open PyProof.Rows hiding St

/-- data: what a value is, addresses left out; obj: the n-th changeable object of the store; raw: a value as it is -/
inductive Dt where
  | non | bl (b : Bool) | int (i : Int) | str (x : Str) | tup (xs : List Dt) | lst (xs : List Dt) | dct (ks : List Key) (xs : List Dt) | obj (n : Nat) | raw (v : V) | scr (ns : List Int)
/-- a changeable object: a list, a dict -/
inductive Ob where
  | lst (xs : List Dt) | dK (ks : List Key) (xs : List Dt)
abbrev Sto := List Ob
inductive Rs (α : Type) where
  | ok (a : α) (S : Sto) | exc (c : Str) (d : Dt) (S : Sto) | bad
abbrev Mo (α : Type) := Sto → Rs α
@[reducible] def Mo.ret {α : Type} (a : α) : Mo α := fun S => .ok a S
def Mo.bnd {α β : Type} (x : Mo α) (f : α → Mo β) : Mo β := fun S => match x S with
  | .ok a S' => f a S'
  | .exc c d S' => .exc c d S'
  | .bad => .bad
def Mo.no {α : Type} : Mo α := fun _ => .bad
def Mo.err {α : Type} (c : Str) (d : Dt) : Mo α := fun S => .exc c d S
instance : Monad Mo where
  pure := Mo.ret
  bind := Mo.bnd
theorem bnd_ok {α β : Type} {x : Mo α} {f : α → Mo β} {S S' : Sto} {a : α} (h : x S = .ok a S') : (x >>= f) S = f a S' := by
  show (match x S with | .ok a S' => f a S' | .exc c d S' => .exc c d S' | .bad => .bad) = _
  rw [h]
theorem bnd_exc {α β : Type} {x : Mo α} {f : α → Mo β} {S S' : Sto} {c : Str} {d : Dt} (h : x S = .exc c d S') : (x >>= f) S = .exc c d S' := by
  show (match x S with | .ok a S' => f a S' | .exc c d S' => .exc c d S' | .bad => .bad) = _
  rw [h]
theorem pure_ok {α : Type} {a : α} {S : Sto} : (pure a : Mo α) S = .ok a S := rfl
abbrev Nv := List (Option Dt)

/-! ### what stands where -/
/-- the objects of the store by their places; what is hidden: objects that no data is -/
structure Fi where
  st : List Addr
  hid : List Addr
def Fi.Out (φ : Fi) (a : Addr) : Prop := (a ∉ φ.st) ∧ (a ∉ φ.hid)
def Fi.add (φ : Fi) (p : Addr) : Fi := ⟨φ.st ++ [p], φ.hid⟩
def TupK (K : PySem.W.Frag) (a : Addr) (xs : List V) : Prop :=
  ∃ (o : Obj) (its : Array Value) (n : Nat), K.lookup a = some o ∧ o.cls = .type "tuple" ∧ o.data = .seq its n ∧ its.size ≤ sizeLine ∧ Vals xs its.toList
def TupAt (K : PySem.W.Frag) (φ : Fi) (H : Hp) (a : Addr) (xs : List V) : Prop := (φ.Out a ∧ Rd H a (.tup xs)) ∨ TupK K a xs
def LstAt (φ : Fi) (H : Hp) (a : Addr) (xs : List V) : Prop := φ.Out a ∧ H a = some (.lst xs)
/-- the script: read, never changed -/
def LstK (K : PySem.W.Frag) (a : Addr) (xs : List V) : Prop :=
  ∃ (o : Obj) (its : Array Value) (n : Nat), K.lookup a = some o ∧ o.cls = .type "list" ∧ o.dict = none ∧ o.data = .seq its n ∧ its.size ≤ sizeLine ∧ Vals xs its.toList
def ScrAt (K : PySem.W.Frag) (φ : Fi) (H : Hp) (a : Addr) (xs : List V) : Prop := (φ.Out a ∧ Rd H a (.lst xs)) ∨ LstK K a xs
theorem TupAt.seq {K φ H a xs} (h : TupAt K φ H a xs) : SqT K H a xs := h.elim (fun z => .inl z.2) .inr
theorem ScrAt.seq {K φ H a xs} (h : ScrAt K φ H a xs) : SqL K H a xs := h.elim (fun z => .inl z.2) .inr
theorem LstAt.seq {K : PySem.W.Frag} {φ H a xs} (h : LstAt φ H a xs) : SqL K H a xs := .inl (.inl h.2)
mutual
def Rep (K : PySem.W.Frag) (φ : Fi) (H : Hp) : Dt → V → Prop
  | .non, v => v = .non
  | .bl b, v => v = .bl b
  | .int i, v => v = .int i
  | .str x, v => v = .str x
  | .tup xs, v => ∃ a vs, v = .ref a ∧ TupAt K φ H a vs ∧ Reps K φ H xs vs
  | .lst xs, v => ∃ a vs, v = .ref a ∧ LstAt φ H a vs ∧ Reps K φ H xs vs
  | .dct ks xs, v => ∃ a kvs, v = .ref a ∧ φ.Out a ∧ H a = some (.dK kvs) ∧ kvs.map (·.1) = ks ∧ Reps K φ H xs (kvs.map (·.2))
  | .obj n, v => ∃ a, v = .ref a ∧ φ.st[n]? = some a
  | .raw x, v => v = x
  | .scr ns, v => ∃ a, v = .ref a ∧ ScrAt K φ H a (ns.map V.int)
def Reps (K : PySem.W.Frag) (φ : Fi) (H : Hp) : List Dt → List V → Prop
  | [], vs => vs = []
  | x :: xs, vs => ∃ v r, vs = v :: r ∧ Rep K φ H x v ∧ Reps K φ H xs r
end
/-- what is outside stays, the store's places too -/
structure Kp (φ : Fi) (H : Hp) (φ' : Fi) (H' : Hp) : Prop where
  keep : ∀ a o, H a = some o → φ.Out a → H' a = some o ∧ φ'.Out a
  pre : ∀ (n : Nat) a, φ.st[n]? = some a → φ'.st[n]? = some a
/-- the heap goes on: what is not of the store stays -/
structure Ext (φ : Fi) (H : Hp) (φ' : Fi) (H' : Hp) : Prop where
  keep : ∀ a o, H a = some o → φ.Out a → H' a = some o ∧ φ'.Out a
  pre : ∀ (n : Nat) a, φ.st[n]? = some a → φ'.st[n]? = some a
  hid : φ'.hid = φ.hid
  hk : ∀ a, a ∈ φ.hid → H' a = H a
theorem Ext.refl (φ H) : Ext φ H φ H := ⟨fun _ _ h n => ⟨h, n⟩, fun _ _ h => h, rfl, fun _ _ => rfl⟩
theorem Ext.trans {φ H φ1 H1 φ2 H2} (a : Ext φ H φ1 H1) (b : Ext φ1 H1 φ2 H2) : Ext φ H φ2 H2 :=
  ⟨fun c o h n => let ⟨x, y⟩ := a.keep c o h n; b.keep c o x y, fun n c h => b.pre n c (a.pre n c h), b.hid.trans a.hid, fun c h => (b.hk c (by rw [a.hid]; exact h)).trans (a.hk c h)⟩
theorem Kp.rd {φ H φ' H' a u} (e : Kp φ H φ' H') (n : φ.Out a) (h : Rd H a u) : φ'.Out a ∧ Rd H' a u := by
  rcases h with h | ⟨o, h⟩
  · exact ⟨(e.keep a _ h n).2, .inl (e.keep a _ h n).1⟩
  · exact ⟨(e.keep a _ h n).2, .inr ⟨o, (e.keep a _ h n).1⟩⟩
theorem Kp.tup {K φ H φ' H' a xs} (e : Kp φ H φ' H') (h : TupAt K φ H a xs) : TupAt K φ' H' a xs := h.elim (fun z => .inl (e.rd z.1 z.2)) .inr
theorem Kp.lst {φ H φ' H' a xs} (e : Kp φ H φ' H') (h : LstAt φ H a xs) : LstAt φ' H' a xs := ⟨(e.keep a _ h.2 h.1).2, (e.keep a _ h.2 h.1).1⟩
theorem Kp.scr {K φ H φ' H' a xs} (e : Kp φ H φ' H') (h : ScrAt K φ H a xs) : ScrAt K φ' H' a xs := by
  rcases h with h | h
  · exact .inl (e.rd h.1 h.2)
  · exact .inr h
mutual
theorem Rep.monoK {K φ H φ' H'} (e : Kp φ H φ' H') : ∀ (d : Dt) (v : V), Rep K φ H d v → Rep K φ' H' d v
  | .non, _, h => h
  | .bl _, _, h => h
  | .int _, _, h => h
  | .str _, _, h => h
  | .tup xs, v, h => by
    obtain ⟨a, vs, r, t, q⟩ := (by simpa only [Rep] using h : ∃ a vs, v = .ref a ∧ TupAt K φ H a vs ∧ Reps K φ H xs vs)
    simp only [Rep]
    exact ⟨a, vs, r, e.tup t, Reps.monoK e xs vs q⟩
  | .lst xs, v, h => by
    obtain ⟨a, vs, r, t, q⟩ := (by simpa only [Rep] using h : ∃ a vs, v = .ref a ∧ LstAt φ H a vs ∧ Reps K φ H xs vs)
    simp only [Rep]
    exact ⟨a, vs, r, e.lst t, Reps.monoK e xs vs q⟩
  | .dct ks xs, v, h => by
    obtain ⟨a, kvs, r, n, t, z, q⟩ := (by simpa only [Rep] using h : ∃ a kvs, v = .ref a ∧ φ.Out a ∧ H a = some (.dK kvs) ∧ kvs.map (·.1) = ks ∧ Reps K φ H xs (kvs.map (·.2)))
    simp only [Rep]
    exact ⟨a, kvs, r, (e.keep _ _ t n).2, (e.keep _ _ t n).1, z, Reps.monoK e xs _ q⟩
  | .obj n, v, h => by
    obtain ⟨a, r, t⟩ := (by simpa only [Rep] using h : ∃ a, v = .ref a ∧ φ.st[n]? = some a)
    simp only [Rep]
    exact ⟨a, r, e.pre _ _ t⟩
  | .raw _, _, h => h
  | .scr ns, v, h => by
    obtain ⟨a, r, t⟩ := (by simpa only [Rep] using h : ∃ a, v = .ref a ∧ ScrAt K φ H a (ns.map V.int))
    simp only [Rep]
    exact ⟨a, r, e.scr t⟩
theorem Reps.monoK {K φ H φ' H'} (e : Kp φ H φ' H') : ∀ (ds : List Dt) (vs : List V), Reps K φ H ds vs → Reps K φ' H' ds vs
  | [], _, h => h
  | x :: xs, vs, h => by
    obtain ⟨v, r, z, a, b⟩ := (by simpa only [Reps] using h : ∃ v r, vs = v :: r ∧ Rep K φ H x v ∧ Reps K φ H xs r)
    simp only [Reps]
    exact ⟨v, r, z, Rep.monoK e x v a, Reps.monoK e xs r b⟩
end

theorem Ext.kp {φ H φ' H'} (e : Ext φ H φ' H') : Kp φ H φ' H' := ⟨e.keep, e.pre⟩
theorem Ext.tup {K φ H φ' H' a xs} (e : Ext φ H φ' H') (h : TupAt K φ H a xs) : TupAt K φ' H' a xs := e.kp.tup h
theorem Rep.mono {K φ H φ' H'} (e : Ext φ H φ' H') (d : Dt) (v : V) (h : Rep K φ H d v) : Rep K φ' H' d v := Rep.monoK e.kp d v h
theorem Reps.mono {K φ H φ' H'} (e : Ext φ H φ' H') (ds : List Dt) (vs : List V) (h : Reps K φ H ds vs) : Reps K φ' H' ds vs := Reps.monoK e.kp ds vs h
/-! ### the store, the slots -/
def RepO (K : PySem.W.Frag) (φ : Fi) (H : Hp) (a : Addr) : Ob → Prop
  | .lst xs => ∃ vs, H a = some (.lst vs) ∧ Reps K φ H xs vs
  | .dK ks xs => ∃ kvs, H a = some (.dK kvs) ∧ kvs.map (·.1) = ks ∧ Reps K φ H xs (kvs.map (·.2))
structure RepS (K : PySem.W.Frag) (φ : Fi) (S : Sto) (H : Hp) : Prop where
  len : φ.st.length = S.length
  nd : φ.st.Nodup
  ob : ∀ (n : Nat) a o, φ.st[n]? = some a → S[n]? = some o → RepO K φ H a o
  hs : ∀ a, a ∈ φ.hid → a ∉ φ.st ∧ H a ≠ none
structure RepE (K : PySem.W.Frag) (φ : Fi) (H : Hp) (ρ : Nv) (σ : St) : Prop where
  len : ρ.length = σ.length
  at_ : ∀ (i : Nat) d, ρ[i]? = some (some d) → ∃ v, σ[i]? = some (some v) ∧ Rep K φ H d v
theorem RepE.mono {K φ H φ' H' ρ σ} (h : RepE K φ H ρ σ) (e : Ext φ H φ' H') : RepE K φ' H' ρ σ :=
  ⟨h.len, fun i d z => let ⟨v, a, b⟩ := h.at_ i d z; ⟨v, a, Rep.mono e d v b⟩⟩
theorem RepE.set {K φ H ρ σ} (h : RepE K φ H ρ σ) {d v} (r : Rep K φ H d v) (i : Nat) : RepE K φ H (ρ.set i (some d)) (σ.set i (some v)) := by
  refine ⟨by simpa using h.len, fun j e z => ?_⟩
  by_cases hj : i = j
  · subst hj
    by_cases hl : i < ρ.length
    · rw [List.getElem?_set_self hl] at z
      cases z
      exact ⟨v, List.getElem?_set_self (by rw [← h.len]; exact hl), r⟩
    · rw [List.getElem?_eq_none (by simpa using hl)] at z
      cases z
  · rw [List.getElem?_set_ne hj] at z
    obtain ⟨u, a, b⟩ := h.at_ j e z
    exact ⟨u, by rw [List.getElem?_set_ne hj]; exact a, b⟩
theorem RepS.mem {K φ S H} (h : RepS K φ S H) {a : Addr} (m : a ∈ φ.st) : ∃ (n : Nat) (o : Ob), φ.st[n]? = some a ∧ S[n]? = some o ∧ RepO K φ H a o := by
  obtain ⟨n, hn, e⟩ := List.mem_iff_getElem.mp m
  have h1 : φ.st[n]? = some a := by rw [List.getElem?_eq_getElem hn, e]
  have h2 : n < S.length := by rw [← h.len]; exact hn
  exact ⟨n, S[n], h1, List.getElem?_eq_getElem h2, h.ob n a _ h1 (List.getElem?_eq_getElem h2)⟩
theorem RepS.lives {K φ S H} (h : RepS K φ S H) {a : Addr} (m : a ∈ φ.st) : H a ≠ none := by
  obtain ⟨n, o, _, _, r⟩ := h.mem m
  cases o with
  | lst xs => obtain ⟨vs, e, _⟩ := r; rw [e]; exact fun z => nomatch z
  | dK ks xs => obtain ⟨vs, e, _⟩ := r; rw [e]; exact fun z => nomatch z
theorem RepS.fresh {K φ S H} (h : RepS K φ S H) {p : Addr} (n : H p = none) : φ.Out p := ⟨fun m => h.lives m n, fun m => (h.hs p m).2 n⟩
/-- a new object outside of the store -/
theorem RepS.hne {K φ S H p a} (h : RepS K φ S H) (n : H p = none) (m : a ∈ φ.hid) : a ≠ p := fun z => (h.hs a m).2 (z ▸ n)
theorem Ext.out {K φ S H p o} (s : RepS K φ S H) (n : H p = none) : Ext φ H φ (upd H p o) := ⟨fun a u e m => ⟨by rw [upd_ne (ne_of_none e n)]; exact e, m⟩, fun _ _ z => z, rfl, fun a m => upd_ne (s.hne n m)⟩
theorem RepO.mono {K φ H φ' H' a o} (e : Ext φ H φ' H') (k : H' a = H a) (h : RepO K φ H a o) : RepO K φ' H' a o := by
  cases o with
  | lst xs => obtain ⟨vs, x, y⟩ := h; exact ⟨vs, k.trans x, Reps.mono e _ _ y⟩
  | dK ks xs => obtain ⟨vs, x, y, z⟩ := h; exact ⟨vs, k.trans x, y, Reps.mono e _ _ z⟩
theorem RepS.out {K φ S H p o} (h : RepS K φ S H) (n : H p = none) : RepS K φ S (upd H p o) :=
  ⟨h.len, h.nd, fun i a u e1 e2 => (h.ob i a u e1 e2).mono (Ext.out h n) (upd_ne fun z => (h.fresh n).1 (z ▸ List.mem_of_getElem? e1)), fun a m => ⟨(h.hs a m).1, by rw [upd_ne (h.hne n m)]; exact (h.hs a m).2⟩⟩
/-- a new object of the store -/
theorem Ext.new {K φ S H p o} (s : RepS K φ S H) (n : H p = none) : Ext φ H (φ.add p) (upd H p o) := by
  refine ⟨fun a u e m => ⟨by rw [upd_ne (ne_of_none e n)]; exact e, fun z => ?_, m.2⟩, fun i a e => ?_, rfl, fun a m => upd_ne (s.hne n m)⟩
  · rcases List.mem_append.mp z with z | z
    · exact m.1 z
    · rw [List.mem_singleton.mp z, n] at e; cases e
  · show (φ.st ++ [p])[i]? = some a
    rw [List.getElem?_append_left (List.getElem?_eq_some_iff.mp e).1]; exact e
theorem RepS.new {K φ S H p ho o} (h : RepS K φ S H) (n : H p = none) (r : RepO K (φ.add p) (upd H p ho) p o) : RepS K (φ.add p) (S ++ [o]) (upd H p ho) := by
  refine ⟨by show (φ.st ++ [p]).length = _; simp [h.len], ?_, fun i a u e1 e2 => ?_, fun a m => ⟨fun z => ?_, by rw [upd_ne (h.hne n m)]; exact (h.hs a m).2⟩⟩
  · refine List.nodup_append.mpr ⟨h.nd, by simp, fun a ha b hb e => ?_⟩
    rw [List.mem_singleton.mp hb] at e
    exact (h.fresh n).1 (e ▸ ha)
  · have e1 : (φ.st ++ [p])[i]? = some a := e1
    by_cases hi : i < φ.st.length
    · rw [List.getElem?_append_left hi] at e1
      rw [List.getElem?_append_left (by rw [← h.len]; exact hi)] at e2
      exact (h.ob i a u e1 e2).mono (Ext.new h n) (upd_ne fun z => (h.fresh n).1 (z ▸ List.mem_of_getElem? e1))
    · rw [List.getElem?_append_right (by omega)] at e1
      rw [List.getElem?_append_right (by rw [← h.len]; omega), ← h.len] at e2
      have hk : i - φ.st.length = 0 := by
        have := (List.getElem?_eq_some_iff.mp e1).1
        simp at this; omega
      rw [hk] at e1 e2
      simp at e1 e2
      subst e1; subst e2
      exact r
  · rcases List.mem_append.mp (show a ∈ φ.st ++ [p] from z) with z | z
    · exact (h.hs a m).1 z
    · exact h.hne n m (List.mem_singleton.mp z)
theorem Ext.put {K φ S H a o} (s : RepS K φ S H) (m : a ∈ φ.st) : Ext φ H φ (upd H a o) :=
  ⟨fun b u e n => ⟨by rw [upd_ne (show b ≠ a from fun z => n.1 (by rw [z]; exact m))]; exact e, n⟩, fun _ _ z => z, rfl, fun b n => upd_ne fun z => (s.hs b n).1 (by rw [z]; exact m)⟩
/-- an object of the store is changed -/
theorem RepS.put {K φ S H n a ho o} (h : RepS K φ S H) (e : φ.st[n]? = some a) (r : RepO K φ (upd H a ho) a o) : RepS K φ (S.set n o) (upd H a ho) := by
  have m : a ∈ φ.st := List.mem_of_getElem? e
  refine ⟨by simpa using h.len, h.nd, fun i b u e1 e2 => ?_, fun b q => ⟨(h.hs b q).1, by rw [upd_ne fun z => (h.hs b q).1 (by rw [z]; exact m)]; exact (h.hs b q).2⟩⟩
  by_cases hi : n = i
  · subst hi
    rw [e] at e1; cases e1
    by_cases hl : n < S.length
    · rw [List.getElem?_set_self hl] at e2; cases e2; exact r
    · rw [List.getElem?_eq_none (by simpa using hl)] at e2; cases e2
  · rw [List.getElem?_set_ne hi] at e2
    refine (h.ob i b u e1 e2).mono (Ext.put h m) (upd_ne fun z => hi ?_)
    subst z
    obtain ⟨h1, x1⟩ := List.getElem?_eq_some_iff.mp e
    obtain ⟨h2, x2⟩ := List.getElem?_eq_some_iff.mp e1
    exact (List.getElem_inj h.nd).mp (x1.trans x2.symm)

/-! ### what is wanted behind a result -/
abbrev Cl := Str → Option (Addr × Str)
def post (K : PySem.W.Frag) (cl : Cl) (W : Value → Option Addr → Hp → Prop) (φ : Fi) (H : Hp) {α : Type} (r : Rs α) (k : α → Sto → Fi → Hp → Prop) : Prop := match r with
  | .ok a S' => ∀ φ' H', Ext φ H φ' H' → RepS K φ' S' H' → k a S' φ' H'
  | .exc c d S' => ∀ φ' H', Ext φ H φ' H' → RepS K φ' S' H' → ∀ C f dx v, cl c = some (C, f) → Rep K φ' H' d v → H' dx = some (.xd [(f, v)]) → W (.ref C) (some dx) H'
  | .bad => False
section
variable {K : PySem.W.Frag} {cl : Cl} {W : Value → Option Addr → Hp → Prop} {φ φ' : Fi} {H H' : Hp} {α β : Type}
theorem post.imp {r : Rs α} {k k' : α → Sto → Fi → Hp → Prop} (h : post K cl W φ H r k) (f : ∀ a S' φ' H', Ext φ H φ' H' → RepS K φ' S' H' → k a S' φ' H' → k' a S' φ' H') : post K cl W φ H r k' := by
  cases r with
  | ok a S' => exact fun φ' H' e s => f a S' φ' H' e s (h φ' H' e s)
  | exc c d S' => exact h
  | bad => exact h
theorem post.on {r : Rs α} {k : α → Sto → Fi → Hp → Prop} (h : post K cl W φ H r k) (e : Ext φ H φ' H') : post K cl W φ' H' r k := by
  cases r with
  | ok a S' => exact fun φ2 H2 e2 s => h φ2 H2 (e.trans e2) s
  | exc c d S' => exact fun φ2 H2 e2 s => h φ2 H2 (e.trans e2) s
  | bad => exact h
theorem post.bnd {x : Mo α} {f : α → Mo β} {S : Sto} {k : β → Sto → Fi → Hp → Prop} (h : post K cl W φ H ((x >>= f) S) k) : post K cl W φ H (x S) fun a S1 φ1 H1 => post K cl W φ1 H1 (f a S1) k := by
  cases e : x S with
  | ok a S' =>
    rw [bnd_ok e] at h
    exact fun φ' H' e s => h.on e
  | exc c d S' =>
    rw [bnd_exc e] at h
    exact h
  | bad =>
    have : (x >>= f) S = .bad := by
      show (match x S with | .ok a S' => f a S' | .exc c d S' => .exc c d S' | .bad => .bad) = _
      rw [e]
    rw [this] at h
    exact h
theorem post.ok {a : α} {S : Sto} {k : α → Sto → Fi → Hp → Prop} (h : post K cl W φ H (.ok a S) k) (s : RepS K φ S H) : k a S φ H := h φ H (Ext.refl _ _) s
end
/-- a result without exceptions -/
def postV (K : PySem.W.Frag) (φ : Fi) (H : Hp) {α : Type} (r : Rs α) (k : α → Sto → Fi → Hp → Prop) : Prop := match r with
  | .ok a S' => ∀ φ' H', Ext φ H φ' H' → RepS K φ' S' H' → k a S' φ' H'
  | _ => False
def NoX {α : Type} (m : Mo α) : Prop := ∀ S c d S', m S ≠ .exc c d S'
theorem post.val {K : PySem.W.Frag} {cl : Cl} {W : Value → Option Addr → Hp → Prop} {φ : Fi} {H : Hp} {α : Type} {m : Mo α} {S : Sto} {k : α → Sto → Fi → Hp → Prop} (h : post K cl W φ H (m S) k) (n : NoX m) : postV K φ H (m S) k := by
  cases e : m S with
  | ok a S' => rw [e] at h; exact h
  | exc c d S' => exact absurd e (n S c d S')
  | bad => rw [e] at h; exact h

/-! ### the readings -/
section
variable (K : PySem.W.Frag) (cl : Cl) (W : WX)
def tE (m : Nv → Mo Dt) : TE := fun σ H Q => ∃ φ ρ S, RepE K φ H ρ σ ∧ RepS K φ S H ∧ post K cl (fun c d H' => W c d σ H') φ H (m ρ S) fun d _ φ' H' => ∀ v, Rep K φ' H' d v → Q v H'
def tT (m : Nv → Mo Bool) : TT := fun σ H Q => ∃ φ ρ S, RepE K φ H ρ σ ∧ RepS K φ S H ∧ post K cl (fun c d H' => W c d σ H') φ H (m ρ S) fun b _ φ' H' => Q b H'
def tA (m : Nv → Mo (List Dt)) : TA := fun σ H Q => ∃ φ ρ S, RepE K φ H ρ σ ∧ RepS K φ S H ∧ post K cl (fun c d H' => W c d σ H') φ H (m ρ S) fun ds _ φ' H' => ∀ vs, Reps K φ' H' ds vs → Q vs H'
end
inductive Fl where
  | nx (ρ : Nv) | rt (d : Dt) | bk (ρ : Nv) | ct (ρ : Nv)
def endsOf (K : PySem.W.Frag) (D : Ends) (f : Fl) (φ' : Fi) (H' : Hp) : Prop := match f with
  | .nx ρ => ∀ σ', RepE K φ' H' ρ σ' → D.nx σ' H'
  | .rt d => ∀ v, Rep K φ' H' d v → D.rt v H'
  | .bk ρ => ∀ σ', RepE K φ' H' ρ σ' → D.bk σ' H'
  | .ct ρ => ∀ σ', RepE K φ' H' ρ σ' → D.ct σ' H'
def tS (K : PySem.W.Frag) (cl : Cl) (W : WX) (m : Nv → Mo Fl) : TS := fun D σ H => ∃ φ ρ S, RepE K φ H ρ σ ∧ RepS K φ S H ∧ post K cl (fun c d H' => ∀ σ', W c d σ' H') φ H (m ρ S) fun f _ φ' H' => endsOf K D f φ' H'
section
variable (cl : Cl) (W : WX) (X : Cx)
def PEm (e : Expr) (m : Nv → Mo Dt) : Prop := PE X e (tE X.K cl W m)
def PTm (e : Expr) (m : Nv → Mo Bool) : Prop := PT X e (tT X.K cl W m)
def PWm (e : Expr) (m : Nv → Mo Bool) : Prop := PW X e (tT X.K cl W m)
def PAm (es : List Expr) (m : Nv → Mo (List Dt)) : Prop := PA X es (tA X.K cl W m)
def PSm (s : Stmt) (m : Nv → Mo Fl) : Prop := PS X s (tS X.K cl W m)
def PSsm (s : List Stmt) (m : Nv → Mo Fl) : Prop := PSs X s (tS X.K cl W m)
end
/-- a stronger reading -/
theorem PE_imp {X : Cx} {e : Expr} {t t' : TE} (h : PE X e t) (f : ∀ σ H Q, t' σ H Q → t σ H Q) : PE X e t' := ⟨fun pins s σ H Q I q => h.run pins s σ H Q I (f σ H Q q)⟩
theorem PT_imp {X : Cx} {e : Expr} {t t' : TT} (h : PT X e t) (f : ∀ σ H Q, t' σ H Q → t σ H Q) : PT X e t' := ⟨fun pins s σ H Q I q => h.run pins s σ H Q I (f σ H Q q)⟩
theorem PW_imp {X : Cx} {e : Expr} {t t' : TT} (h : PW X e t) (f : ∀ σ H Q, t' σ H Q → t σ H Q) : PW X e t' := ⟨fun wh pins s σ H Q I q => h.run wh pins s σ H Q I (f σ H Q q)⟩
theorem PA_imp {X : Cx} {e : List Expr} {t t' : TA} (h : PA X e t) (f : ∀ σ H Q, t' σ H Q → t σ H Q) : PA X e t' := ⟨fun p pins s σ H Q I q => h.run p pins s σ H Q I (f σ H Q q)⟩
theorem PS_imp {X : Cx} {e : Stmt} {t t' : TS} (h : PS X e t) (f : ∀ D σ H, t' D σ H → t D σ H) : PS X e t' := ⟨fun pins s σ H D I q => h.run pins s σ H D I (f D σ H q)⟩
theorem PSs_imp {X : Cx} {e : List Stmt} {t t' : TS} (h : PSs X e t) (f : ∀ D σ H, t' D σ H → t D σ H) : PSs X e t' := ⟨fun pins s σ H D I q => h.run pins s σ H D I (f D σ H q)⟩
section
variable {K : PySem.W.Frag} {cl : Cl} {W : WX} {σ : St} {H : Hp} {α : Type}
/-- an expression's turn: where one stands, and what is wanted behind -/
theorem tE.of {m : Nv → Mo Dt} {Q : VK} {φ ρ S} (e : RepE K φ H ρ σ) (s : RepS K φ S H) (h : post K cl (fun c d H' => W c d σ H') φ H (m ρ S) fun d S' φ' H' => Ext φ H φ' H' → RepE K φ' H' ρ σ → RepS K φ' S' H' → ∀ v, Rep K φ' H' d v → Q v H') : tE K cl W m σ H Q :=
  ⟨φ, ρ, S, e, s, h.imp fun a S' φ' H' x y z => z x (e.mono x) y⟩
theorem tT.of {m : Nv → Mo Bool} {Q : Bool → Hp → Prop} {φ ρ S} (e : RepE K φ H ρ σ) (s : RepS K φ S H) (h : post K cl (fun c d H' => W c d σ H') φ H (m ρ S) fun d S' φ' H' => Ext φ H φ' H' → RepE K φ' H' ρ σ → RepS K φ' S' H' → Q d H') : tT K cl W m σ H Q :=
  ⟨φ, ρ, S, e, s, h.imp fun a S' φ' H' x y z => z x (e.mono x) y⟩
theorem tA.of {m : Nv → Mo (List Dt)} {Q : List V → Hp → Prop} {φ ρ S} (e : RepE K φ H ρ σ) (s : RepS K φ S H) (h : post K cl (fun c d H' => W c d σ H') φ H (m ρ S) fun d S' φ' H' => Ext φ H φ' H' → RepE K φ' H' ρ σ → RepS K φ' S' H' → ∀ v, Reps K φ' H' d v → Q v H') : tA K cl W m σ H Q :=
  ⟨φ, ρ, S, e, s, h.imp fun a S' φ' H' x y z => z x (e.mono x) y⟩
end
end ML

set_option Elab.async false
set_option linter.all false
set_option maxRecDepth 100000
set_option maxHeartbeats 1000000
/-! ML: expressions. -/
namespace ML
open PySem PySem.Spec L2
open PyProof.Rows hiding St

/-- what only reads the store -/
def Mo.rd {α : Type} (f : Sto → Option α) : Mo α := fun S => match f S with
  | some a => .ok a S
  | none => .bad
theorem Mo.rd_ok {α : Type} {f : Sto → Option α} {S : Sto} {a : α} (h : f S = some a) : Mo.rd f S = .ok a S := by
  show (match f S with | some a => Rs.ok a S | none => .bad) = _
  rw [h]
section
variable {K : PySem.W.Frag} {cl : Cl} {W : Value → Option Addr → Hp → Prop} {φ : Fi} {H : Hp} {α : Type}
theorem post.rd {f : Sto → Option α} {S : Sto} {k : α → Sto → Fi → Hp → Prop} (h : post K cl W φ H (Mo.rd f S) k) : ∃ a, f S = some a ∧ ∀ φ' H', Ext φ H φ' H' → RepS K φ' S H' → k a S φ' H' := by
  cases e : f S with
  | some a => rw [Mo.rd_ok e] at h; exact ⟨a, rfl, h⟩
  | none =>
    have : Mo.rd f S = .bad := by
      show (match f S with | some a => Rs.ok a S | none => .bad) = _
      rw [e]
    rw [this] at h
    exact False.elim h
end

/-! ### names, constants -/
def mVar (i : Nat) : Nv → Mo Dt := fun ρ => match (ρ[i]?).join with
  | some d => Mo.ret d
  | none => Mo.no
def mC (d : Dt) : Nv → Mo Dt := fun _ => Mo.ret d
section
variable {cl : Cl} {W : WX} {X : Cx}
theorem em_var (i : Nat) {x : Str} {pos : Pos} (hN : X.N[i]? = some x := by rfl) (hv : Vis X.env.scope x := by first | exact Or.inl rfl | exact Or.inr (Or.inl rfl) | exact Or.inr (Or.inr rfl)) (hd : (x == ("__debug__" : Str)) = false := by decide)
    (hcd : (x == ("__classdict__" : Str)) = false := by decide) : PEm cl W X (.Name x pos) (mVar i) := by
  refine PE_imp (pe_var hN hv hd hcd) fun σ H Q h => ?_
  obtain ⟨φ, ρ, S, e, s, h⟩ := h
  unfold mVar at h
  cases q : (ρ[i]?).join with
  | none => rw [q] at h; exact False.elim h
  | some d =>
    rw [q] at h
    obtain ⟨v, h1, h2⟩ := e.at_ i d (Option.join_eq_some_iff.mp q)
    exact ⟨v, h1, h.ok s v h2⟩
theorem em_const {d : Dt} {v : V} {e : Expr} (he : PE X e (tC v)) (hr : ∀ K φ H, Rep K φ H d v) : PEm cl W X e (mC d) := by
  refine PE_imp he fun σ H Q h => ?_
  obtain ⟨φ, ρ, S, e, s, h⟩ := h
  exact h.ok s v (hr _ _ _)
theorem em_int {i j pos} : PEm cl W X (.Constant (.int i) j pos) (mC (.int i)) := em_const pe_int fun _ _ _ => rfl
theorem em_bl {b j pos} : PEm cl W X (.Constant (.bool b) j pos) (mC (.bl b)) := em_const pe_bl fun _ _ _ => rfl
theorem em_non {j pos} : PEm cl W X (.Constant .none j pos) (mC .non) := em_const pe_non fun _ _ _ => rfl
theorem em_str {x j pos} : PEm cl W X (.Constant (.str x) j pos) (mC (.str x)) := em_const pe_str fun _ _ _ => rfl
/-- a module's int, text, def -/
theorem em_glob {x : Str} {d : Dt} {v : V} {u : Value} {pos : Pos} (hm : X.mg x = some u) (r : RelV v u) (hr : ∀ K φ H, Rep K φ H d v) (hg : Gl X x := by rfl) (hd : (x == ("__debug__" : Str)) = false := by decide) : PEm cl W X (.Name x pos) (mC d) :=
  em_const (pe_glob hg hm r hd) hr
end

/-! ### one value in, two, several -/
def Sd1 (K : PySem.W.Frag) (f : Dt → Sto → Option Dt) (r : V → Hp → VK → Prop) : Prop := ∀ φ H S d x d' (Q : VK), RepS K φ S H → Rep K φ H d x → f d S = some d' → (∀ φ' H' v, Ext φ H φ' H' → RepS K φ' S H' → Rep K φ' H' d' v → Q v H') → r x H Q
def Sd2 (K : PySem.W.Frag) (f : Dt → Dt → Sto → Option Dt) (r : R2) : Prop := ∀ φ H S d e x y d' (Q : VK), RepS K φ S H → Rep K φ H d x → Rep K φ H e y → f d e S = some d' → (∀ φ' H' v, Ext φ H φ' H' → RepS K φ' S H' → Rep K φ' H' d' v → Q v H') → r x y H Q
def Sdn (K : PySem.W.Frag) (f : List Dt → Sto → Option Dt) (r : List V → Hp → VK → Prop) : Prop := ∀ φ H S ds xs d' (Q : VK), RepS K φ S H → Reps K φ H ds xs → f ds S = some d' → (∀ φ' H' v, Ext φ H φ' H' → RepS K φ' S H' → Rep K φ' H' d' v → Q v H') → r xs H Q
def m1 (f : Dt → Sto → Option Dt) (ma : Nv → Mo Dt) : Nv → Mo Dt := fun ρ => ma ρ >>= fun d => Mo.rd (f d)
def m2 (f : Dt → Dt → Sto → Option Dt) (ma mb : Nv → Mo Dt) : Nv → Mo Dt := fun ρ => ma ρ >>= fun d => mb ρ >>= fun e => Mo.rd (f d e)
def mn (f : List Dt → Sto → Option Dt) (ms : Nv → Mo (List Dt)) : Nv → Mo Dt := fun ρ => ms ρ >>= fun ds => Mo.rd (f ds)
section
variable {K : PySem.W.Frag} {cl : Cl} {W : WX} {σ : St} {H : Hp}
theorem tE.imp {m : Nv → Mo Dt} {Q Q' : VK} (h : tE K cl W m σ H Q) (f : ∀ v H', Q v H' → Q' v H') : tE K cl W m σ H Q' := by
  obtain ⟨φ, ρ, S, e, s, h⟩ := h
  exact ⟨φ, ρ, S, e, s, h.imp fun a S' φ' H' _ _ q v r => f v H' (q v r)⟩
theorem tA.imp {m : Nv → Mo (List Dt)} {Q Q' : List V → Hp → Prop} (h : tA K cl W m σ H Q) (f : ∀ v H', Q v H' → Q' v H') : tA K cl W m σ H Q' := by
  obtain ⟨φ, ρ, S, e, s, h⟩ := h
  exact ⟨φ, ρ, S, e, s, h.imp fun a S' φ' H' _ _ q v r => f v H' (q v r)⟩
theorem tT.imp {m : Nv → Mo Bool} {Q Q' : Bool → Hp → Prop} (h : tT K cl W m σ H Q) (f : ∀ v H', Q v H' → Q' v H') : tT K cl W m σ H Q' := by
  obtain ⟨φ, ρ, S, e, s, h⟩ := h
  exact ⟨φ, ρ, S, e, s, h.imp fun a S' φ' H' _ _ q => f a H' q⟩
theorem tE.b1 {α : Type} {ma : Nv → Mo Dt} {f : Dt → Nv → Mo α} {k : α → Sto → Fi → Hp → Prop} {φ ρ S} (e : RepE K φ H ρ σ) (s : RepS K φ S H) (h : post K cl (fun c d H' => W c d σ H') φ H ((ma ρ >>= fun d => f d ρ) S) k) :
    tE K cl W ma σ H fun x H1 => ∃ φ1 S1 d, Ext φ H φ1 H1 ∧ RepE K φ1 H1 ρ σ ∧ RepS K φ1 S1 H1 ∧ Rep K φ1 H1 d x ∧ post K cl (fun c d H' => W c d σ H') φ1 H1 (f d ρ S1) k :=
  tE.of e s (h.bnd.imp fun d S' φ' H' x s' q x' e' s'' v r => ⟨φ', S', d, x, e', s'', r, q⟩)
theorem rd1 {f : Dt → Sto → Option Dt} {r : V → Hp → VK → Prop} (hs : Sd1 K f r) {ma : Nv → Mo Dt} {Q : VK} (h : tE K cl W (m1 f ma) σ H Q) : tUn r (tE K cl W ma) σ H Q := by
  obtain ⟨φ, ρ, S, e, s, h⟩ := h
  refine (tE.b1 (f := fun d _ => Mo.rd (f d)) e s h).imp fun v H' ⟨φ1, S1, d, x1, e1, s1, r1, p⟩ => ?_
  obtain ⟨d', h1, h2⟩ := p.rd
  exact hs φ1 H' S1 d v d' Q s1 r1 h1 fun φ2 H2 u a b c => h2 φ2 H2 a b u c
theorem rd2 {f : Dt → Dt → Sto → Option Dt} {r : R2} (hs : Sd2 K f r) {ma mb : Nv → Mo Dt} {Q : VK} (h : tE K cl W (m2 f ma mb) σ H Q) : tOp r (tE K cl W ma) (tE K cl W mb) σ H Q := by
  obtain ⟨φ, ρ, S, e, s, h⟩ := h
  refine (tE.b1 (f := fun d ρ => mb ρ >>= fun e => Mo.rd (f d e)) e s h).imp fun x H1 ⟨φ1, S1, d, x1, e1, s1, r1, p⟩ => ?_
  refine (tE.b1 (f := fun d' _ => Mo.rd (f d d')) e1 s1 p).imp fun y H2 ⟨φ2, S2, d2, x2, e2, s2, r2, p2⟩ => ?_
  obtain ⟨d', h1, h2⟩ := p2.rd
  exact hs φ2 H2 S2 d d2 x y d' Q s2 (Rep.mono x2 _ _ r1) r2 h1 fun φ3 H3 u a b c => h2 φ3 H3 a b u c
theorem tA.b1 {α : Type} {ms : Nv → Mo (List Dt)} {f : List Dt → Nv → Mo α} {k : α → Sto → Fi → Hp → Prop} {φ ρ S} (e : RepE K φ H ρ σ) (s : RepS K φ S H) (h : post K cl (fun c d H' => W c d σ H') φ H ((ms ρ >>= fun d => f d ρ) S) k) :
    tA K cl W ms σ H fun xs H1 => ∃ φ1 S1 ds, Ext φ H φ1 H1 ∧ RepE K φ1 H1 ρ σ ∧ RepS K φ1 S1 H1 ∧ Reps K φ1 H1 ds xs ∧ post K cl (fun c d H' => W c d σ H') φ1 H1 (f ds ρ S1) k :=
  tA.of e s (h.bnd.imp fun d S' φ' H' x s' q x' e' s'' v r => ⟨φ', S', d, x, e', s'', r, q⟩)
theorem tT.b1 {α : Type} {mt : Nv → Mo Bool} {f : Bool → Nv → Mo α} {k : α → Sto → Fi → Hp → Prop} {φ ρ S} (e : RepE K φ H ρ σ) (s : RepS K φ S H) (h : post K cl (fun c d H' => W c d σ H') φ H ((mt ρ >>= fun d => f d ρ) S) k) :
    tT K cl W mt σ H fun b H1 => ∃ φ1 S1, Ext φ H φ1 H1 ∧ RepE K φ1 H1 ρ σ ∧ RepS K φ1 S1 H1 ∧ post K cl (fun c d H' => W c d σ H') φ1 H1 (f b ρ S1) k :=
  tT.of e s (h.bnd.imp fun d S' φ' H' x s' q x' e' s'' => ⟨φ', S', x, e', s'', q⟩)
theorem rdn {f : List Dt → Sto → Option Dt} {r : List V → Hp → VK → Prop} (hs : Sdn K f r) {ms : Nv → Mo (List Dt)} {Q : VK} (h : tE K cl W (mn f ms) σ H Q) : tCB r (tA K cl W ms) σ H Q := by
  obtain ⟨φ, ρ, S, e, s, h⟩ := h
  refine (tA.b1 (f := fun ds _ => Mo.rd (f ds)) e s h).imp fun xs H1 ⟨φ1, S1, ds, x1, e1, s1, r1, p⟩ => ?_
  obtain ⟨d', h1, h2⟩ := p.rd
  exact hs φ1 H1 S1 ds xs d' Q s1 r1 h1 fun φ2 H2 u a b c => h2 φ2 H2 a b u c
end
/-! ### argument lists, displays -/
def mNil : Nv → Mo (List Dt) := fun _ => Mo.ret []
def mCons (ma : Nv → Mo Dt) (ms : Nv → Mo (List Dt)) : Nv → Mo (List Dt) := fun ρ => ma ρ >>= fun d => ms ρ >>= fun ds => Mo.ret (d :: ds)
def fTup (ds : List Dt) : Sto → Option Dt := fun _ => if ds.length ≤ 1000 then some (.tup ds) else none
def fLst (ds : List Dt) : Sto → Option Dt := fun _ => if ds.length ≤ 1000 then some (.lst ds) else none
theorem small_line {n : Nat} (h : n ≤ 1000) : n ≤ sizeLine := by rw [sizeLine_eq]; omega
theorem Reps.length {K φ H} : ∀ {ds : List Dt} {vs : List V}, Reps K φ H ds vs → ds.length = vs.length
  | [], vs, h => by
    have e : vs = [] := h
    rw [e]; rfl
  | x :: xs, vs, h => by
    obtain ⟨v, r, e, _, b⟩ := (show ∃ v r, vs = v :: r ∧ Rep K φ H x v ∧ Reps K φ H xs r from h)
    rw [e, List.length_cons, List.length_cons, Reps.length b]
theorem Rep.newTup {K : PySem.W.Frag} {φ : Fi} {S : Sto} {H : Hp} {p : Addr} {ds : List Dt} {vs : List V} (s : RepS K φ S H) (n : H p = none) (r : Reps K φ H ds vs) : Rep K φ (upd H p (.tup vs)) (.tup ds) (.ref p) :=
  ⟨p, vs, rfl, .inl ⟨s.fresh n, .inl upd_same⟩, Reps.mono (Ext.out s n) _ _ r⟩
theorem Rep.newLst {K : PySem.W.Frag} {φ : Fi} {S : Sto} {H : Hp} {p : Addr} {ds : List Dt} {vs : List V} (s : RepS K φ S H) (n : H p = none) (r : Reps K φ H ds vs) : Rep K φ (upd H p (.lst vs)) (.lst ds) (.ref p) :=
  ⟨p, vs, rfl, ⟨s.fresh n, upd_same⟩, Reps.mono (Ext.out s n) _ _ r⟩
section
variable {cl : Cl} {W : WX} {X : Cx}
theorem am_nil : PAm cl W X [] mNil := PA_imp pa_nil fun σ H Q h => by
  obtain ⟨φ, ρ, S, e, s, h⟩ := h
  exact h.ok s [] rfl
theorem am_cons {e : Expr} {es : List Expr} {ma : Nv → Mo Dt} {ms : Nv → Mo (List Dt)} (ha : PEm cl W X e ma) (hr : PAm cl W X es ms) (hs : starEach (e :: es) X.env = (false, eval e X.env) :: starEach es X.env := by rfl) : PAm cl W X (e :: es) (mCons ma ms) := by
  refine PA_imp (pa_cons ha hr hs) fun σ H Q h => ?_
  obtain ⟨φ, ρ, S, e, s, h⟩ := h
  refine (tE.b1 (f := fun d ρ => ms ρ >>= fun ds => Mo.ret (d :: ds)) e s h).imp fun x H1 ⟨φ1, S1, d, x1, e1, s1, r1, p⟩ => ?_
  refine (tA.b1 (f := fun ds _ => Mo.ret (d :: ds)) e1 s1 p).imp fun xs H2 ⟨φ2, S2, ds, x2, e2, s2, r2, p2⟩ => ?_
  exact p2.ok s2 (x :: xs) ⟨x, xs, rfl, Rep.mono x2 _ _ r1, r2⟩
/-- a tuple, a list that is only read -/
theorem em_tup {es : List Expr} {ms : Nv → Mo (List Dt)} {x1 pos} (h : PAm cl W X es ms) : PEm cl W X (.Tuple es x1 pos) (mn fTup ms) := by
  refine PE_imp (pe_tup h) fun σ H Q h => ?_
  refine rdn (r := fun xs H1 Q => xs.length ≤ sizeLine ∧ ∀ p, H1 p = none → Q (.ref p) (upd H1 p (.tup xs))) (fun φ H S ds xs d' Q s r hf k => ?_) h
  unfold fTup at hf
  split at hf
  · rename_i hl
    cases hf
    exact ⟨small_line (by rw [← r.length]; exact hl), fun p n => k φ _ _ (Ext.out s n) (s.out n) (Rep.newTup s n r)⟩
  · cases hf
theorem em_lst {es : List Expr} {ms : Nv → Mo (List Dt)} {pos} (h : PAm cl W X es ms) : PEm cl W X (.List es pos) (mn fLst ms) := by
  refine PE_imp (pe_lst h) fun σ H Q h => ?_
  refine rdn (r := fun xs H1 Q => xs.length ≤ sizeLine ∧ ∀ p, H1 p = none → Q (.ref p) (upd H1 p (.lst xs))) (fun φ H S ds xs d' Q s r hf k => ?_) h
  unfold fLst at hf
  split at hf
  · rename_i hl
    cases hf
    exact ⟨small_line (by rw [← r.length]; exact hl), fun p n => k φ _ _ (Ext.out s n) (s.out n) (Rep.newLst s n r)⟩
  · cases hf
/-- a list that will be changed: an object of the store -/
def Mo.new (o : Option Ob) : Mo Dt := fun S => match o with
  | some o => .ok (.obj S.length) (S ++ [o])
  | none => .bad
def mNew (f : List Dt → Option Ob) (ms : Nv → Mo (List Dt)) : Nv → Mo Dt := fun ρ => ms ρ >>= fun ds => Mo.new (f ds)
def nLst (ds : List Dt) : Option Ob := if ds.length ≤ 1000 then some (.lst ds) else none
theorem em_lstO {es : List Expr} {ms : Nv → Mo (List Dt)} {pos} (h : PAm cl W X es ms) : PEm cl W X (.List es pos) (mNew nLst ms) := by
  refine PE_imp (pe_lst h) fun σ H Q h => ?_
  obtain ⟨φ, ρ, S, e, s, h⟩ := h
  refine (tA.b1 (f := fun ds _ => Mo.new (nLst ds)) e s h).imp fun xs H1 ⟨φ1, S1, ds, x1, e1, s1, r1, p⟩ => ?_
  unfold nLst at p
  by_cases hl : ds.length ≤ 1000
  · rw [if_pos hl] at p
    refine ⟨small_line (by rw [← r1.length]; exact hl), fun a n => ?_⟩
    refine p (φ1.add a) _ (Ext.new s1 n) (s1.new n ⟨xs, upd_same, Reps.mono (Ext.new s1 n) _ _ r1⟩) _ ⟨a, rfl, ?_⟩
    show (φ1.st ++ [a])[S1.length]? = some a
    rw [← s1.len, List.getElem?_append_right (Nat.le_refl _)]
    simp
  · rw [if_neg hl] at p
    exact False.elim p

/-! ### operators -/
theorem em_un {op : UnaryOp} {a : Expr} {pos : Pos} {r : V → Hp → VK → Prop} {f : Dt → Sto → Option Dt} {ma : Nv → Mo Dt} (ho : UnR X (unaryOp op) r) (hs : Sd1 X.K f r) (ha : PEm cl W X a ma) : PEm cl W X (.UnaryOp op a pos) (m1 f ma) :=
  PE_imp (pe_un ho ha) fun _ _ _ h => rd1 hs h
theorem em_op {op : Operator} {a b : Expr} {pos : Pos} {r : R2} {f : Dt → Dt → Sto → Option Dt} {ma mb : Nv → Mo Dt} (ho : OpR X (binaryOp op) r) (hs : Sd2 X.K f r) (ha : PEm cl W X a ma) (hb : PEm cl W X b mb) : PEm cl W X (.BinOp a op b pos) (m2 f ma mb) :=
  PE_imp (pe_op ho ha hb) fun _ _ _ h => rd2 hs h
theorem em_cmp {op : CmpOp} {a b : Expr} {pos : Pos} {r : R2} {f : Dt → Dt → Sto → Option Dt} {ma mb : Nv → Mo Dt} (ho : OpR X (compareOp op) r) (hs : Sd2 X.K f r) (ha : PEm cl W X a ma) (hb : PEm cl W X b mb) (hm : behindInMarks op b = false) : PEm cl W X (.Compare a [op] [b] pos) (m2 f ma mb) :=
  PE_imp (pe_cmpR ho ha hb hm) fun _ _ _ h => rd2 hs h
/-- a value as a test, where it is a truth -/
def Dt.tru : Dt → Option Bool
  | .bl b => some b
  | _ => none
def mB (m : Nv → Mo Dt) : Nv → Mo Bool := fun ρ => m ρ >>= fun d => Mo.rd fun _ => d.tru
theorem tT.val {K : PySem.W.Frag} {m : Nv → Mo Dt} {σ : St} {H : Hp} {Q : Bool → Hp → Prop} (h : tT K cl W (mB m) σ H Q) : tE K cl W m σ H fun x H1 => ∃ k, x = .bl k ∧ Q k H1 := by
  obtain ⟨φ, ρ, S, e, s, h⟩ := h
  refine (tE.b1 (f := fun d _ => Mo.rd fun _ => d.tru) e s h).imp fun x H1 ⟨φ1, S1, d, x1, e1, s1, r1, p⟩ => ?_
  obtain ⟨b, hb, q⟩ := p.rd
  cases d <;> first
    | (cases hb; obtain rfl : x = _ := r1; exact ⟨_, rfl, q φ1 H1 (Ext.refl _ _) s1⟩)
    | cases hb
theorem tm_cmp {op : CmpOp} {a b : Expr} {pos : Pos} {r : R2} {f : Dt → Dt → Sto → Option Dt} {ma mb : Nv → Mo Dt} (ho : OpR X (compareOp op) r) (hs : Sd2 X.K f r) (ha : PEm cl W X a ma) (hb : PEm cl W X b mb) (hm : behindInMarks op b = false) : PTm cl W X (.Compare a [op] [b] pos) (mB (m2 f ma mb)) :=
  PT_imp (pt_cmpR ho ha hb hm) fun _ _ _ h => rd2 (Q := _) hs (tT.val h)
theorem tm_val {a : Expr} {ma : Nv → Mo Dt} (ha : PEm cl W X a ma) (he : ∀ whole, isTrue a X.env whole = (do let v ← whole; standAt a.pos; holding [v] (truthy v)) := by intro _; rfl) : PTm cl W X a (mB ma) :=
  PT_imp (pt_val ha he) fun _ _ _ h => tT.val h
/-! and, or, not -/
def mNot (mt : Nv → Mo Bool) : Nv → Mo Bool := fun ρ => mt ρ >>= fun b => Mo.ret (!b)
def mAnd (ma mb : Nv → Mo Bool) : Nv → Mo Bool := fun ρ => ma ρ >>= fun b => if b = true then mb ρ else Mo.ret false
def mOr (ma mb : Nv → Mo Bool) : Nv → Mo Bool := fun ρ => ma ρ >>= fun b => if b = true then Mo.ret true else mb ρ
theorem tm_not {a : Expr} {pos : Pos} {ma : Nv → Mo Bool} (ha : PTm cl W X a ma) : PTm cl W X (.UnaryOp .Not a pos) (mNot ma) := by
  refine PT_imp (pt_not ha) fun σ H Q h => ?_
  obtain ⟨φ, ρ, S, e, s, h⟩ := h
  exact (tT.b1 (f := fun b _ => Mo.ret (!b)) e s h).imp fun b H1 ⟨φ1, S1, x1, e1, s1, p⟩ => p.ok s1
theorem tw_and1 {a : Expr} {pos : Pos} {ma : Nv → Mo Bool} (ha : PTm cl W X a ma) : PWm cl W X (.BoolOp .And [a] pos) ma := PW_imp (pw_and1 ha) fun _ _ _ h => h
theorem tw_or1 {a : Expr} {pos : Pos} {ma : Nv → Mo Bool} (ha : PTm cl W X a ma) : PWm cl W X (.BoolOp .Or [a] pos) ma := PW_imp (pw_or1 ha) fun _ _ _ h => h
theorem tw_and {a b : Expr} {r : List Expr} {pos : Pos} {ma mb : Nv → Mo Bool} (ha : PTm cl W X a ma) (hb : PWm cl W X (.BoolOp .And (b :: r) pos) mb) : PWm cl W X (.BoolOp .And (a :: b :: r) pos) (mAnd ma mb) := by
  refine PW_imp (pw_and ha hb) fun σ H Q h => ?_
  obtain ⟨φ, ρ, S, e, s, h⟩ := h
  refine (tT.b1 (f := fun b ρ => if b = true then mb ρ else Mo.ret false) e s h).imp fun b H1 ⟨φ1, S1, x1, e1, s1, p⟩ => ?_
  cases b with
  | true => exact ⟨φ1, ρ, S1, e1, s1, p⟩
  | false => exact p.ok s1
theorem tw_or {a b : Expr} {r : List Expr} {pos : Pos} {ma mb : Nv → Mo Bool} (ha : PTm cl W X a ma) (hb : PWm cl W X (.BoolOp .Or (b :: r) pos) mb) : PWm cl W X (.BoolOp .Or (a :: b :: r) pos) (mOr ma mb) := by
  refine PW_imp (pw_or ha hb) fun σ H Q h => ?_
  obtain ⟨φ, ρ, S, e, s, h⟩ := h
  refine (tT.b1 (f := fun b ρ => if b = true then Mo.ret true else mb ρ) e s h).imp fun b H1 ⟨φ1, S1, x1, e1, s1, p⟩ => ?_
  cases b with
  | true => exact p.ok s1
  | false => exact ⟨φ1, ρ, S1, e1, s1, p⟩
theorem tw_pt {e : Expr} {m : Nv → Mo Bool} (h : PWm cl W X e m) : PTm cl W X e m := PW.pt h
/-- as values: all but the last are truths -/
def mAndV (ma mb : Nv → Mo Dt) : Nv → Mo Dt := fun ρ => ma ρ >>= fun d => (Mo.rd fun _ => d.tru) >>= fun b => if b = true then mb ρ else Mo.ret (.bl false)
def mOrV (ma mb : Nv → Mo Dt) : Nv → Mo Dt := fun ρ => ma ρ >>= fun d => (Mo.rd fun _ => d.tru) >>= fun b => if b = true then Mo.ret (.bl true) else mb ρ
def mNotV (ma : Nv → Mo Dt) : Nv → Mo Dt := m1 (fun d _ => d.tru.map fun b => .bl !b) ma
theorem tru_of {K φ H} {d : Dt} {x : V} {b : Bool} (r : Rep K φ H d x) (h : d.tru = some b) : x = .bl b := by
  cases d <;> first
    | (cases h; exact r)
    | cases h
theorem em_one {op : BoolOp} {a : Expr} {pos : Pos} {ma : Nv → Mo Dt} (ha : PEm cl W X a ma) : PEm cl W X (.BoolOp op [a] pos) ma := pe_one ha
theorem em_and {a b : Expr} {r : List Expr} {pos : Pos} {ma mb : Nv → Mo Dt} (ha : PEm cl W X a ma) (hb : PEm cl W X (.BoolOp .And (b :: r) pos) mb) : PEm cl W X (.BoolOp .And (a :: b :: r) pos) (mAndV ma mb) := by
  refine PE_imp (pe_and ha hb) fun σ H Q h => ?_
  obtain ⟨φ, ρ, S, e, s, h⟩ := h
  refine (tE.b1 (f := fun d ρ => (Mo.rd fun _ => d.tru) >>= fun b => if b = true then mb ρ else Mo.ret (.bl false)) e s h).imp fun x H1 ⟨φ1, S1, d, x1, e1, s1, r1, p⟩ => ?_
  obtain ⟨b, hb, q⟩ := p.bnd.rd
  have q := q φ1 H1 (Ext.refl _ _) s1
  refine ⟨b, tru_of r1 hb, ?_⟩
  cases b with
  | true => exact ⟨φ1, ρ, S1, e1, s1, q⟩
  | false => exact q.ok s1 _ rfl
theorem em_or {a b : Expr} {r : List Expr} {pos : Pos} {ma mb : Nv → Mo Dt} (ha : PEm cl W X a ma) (hb : PEm cl W X (.BoolOp .Or (b :: r) pos) mb) : PEm cl W X (.BoolOp .Or (a :: b :: r) pos) (mOrV ma mb) := by
  refine PE_imp (pe_or ha hb) fun σ H Q h => ?_
  obtain ⟨φ, ρ, S, e, s, h⟩ := h
  refine (tE.b1 (f := fun d ρ => (Mo.rd fun _ => d.tru) >>= fun b => if b = true then Mo.ret (.bl true) else mb ρ) e s h).imp fun x H1 ⟨φ1, S1, d, x1, e1, s1, r1, p⟩ => ?_
  obtain ⟨b, hb, q⟩ := p.bnd.rd
  have q := q φ1 H1 (Ext.refl _ _) s1
  refine ⟨b, tru_of r1 hb, ?_⟩
  cases b with
  | true => exact q.ok s1 _ rfl
  | false => exact ⟨φ1, ρ, S1, e1, s1, q⟩
theorem em_not {a : Expr} {pos : Pos} {ma : Nv → Mo Dt} (ha : PEm cl W X a ma) : PEm cl W X (.UnaryOp .Not a pos) (mNotV ma) := by
  refine PE_imp (pe_not ha) fun σ H Q h => ?_
  refine rd1 (r := fun x H1 Q => ∃ c, x = .bl c ∧ Q (.bl !c) H1) (fun φ H S d x d' Q s r hf k => ?_) h
  cases q : d.tru with
  | none => rw [q] at hf; cases hf
  | some b =>
    rw [q] at hf
    cases hf
    exact ⟨b, tru_of r q, k φ H _ (Ext.refl _ _) s rfl⟩
/-- a if t else b -/
def mIf {α : Type} (mt : Nv → Mo Bool) (ma mb : Nv → Mo α) : Nv → Mo α := fun ρ => mt ρ >>= fun b => if b = true then ma ρ else mb ρ
theorem em_if {c a b : Expr} {pos : Pos} {mt : Nv → Mo Bool} {ma mb : Nv → Mo Dt} (hc : PTm cl W X c mt) (ha : PEm cl W X a ma) (hb : PEm cl W X b mb) : PEm cl W X (.IfExp c a b pos) (mIf mt ma mb) := by
  refine PE_imp (pe_ifExp hc ha hb) fun σ H Q h => ?_
  obtain ⟨φ, ρ, S, e, s, h⟩ := h
  refine (tT.b1 (f := fun b ρ => if b = true then ma ρ else mb ρ) e s h).imp fun b H1 ⟨φ1, S1, x1, e1, s1, p⟩ => ?_
  cases b with
  | true => exact ⟨φ1, ρ, S1, e1, s1, p⟩
  | false => exact ⟨φ1, ρ, S1, e1, s1, p⟩
/-- a < b < c -/
def mChain (f g : Dt → Dt → Sto → Option Dt) (ma mb mc : Nv → Mo Dt) : Nv → Mo Dt := fun ρ => ma ρ >>= fun d => mb ρ >>= fun e => (Mo.rd (f d e)) >>= fun t => (Mo.rd fun _ => t.tru) >>= fun b => if b = true then mc ρ >>= fun g' => Mo.rd (g e g') else Mo.ret (.bl false)
theorem rdChain {K : PySem.W.Frag} {f g : Dt → Dt → Sto → Option Dt} {r r' : R2} (hs : Sd2 K f r) (hs' : Sd2 K g r') {ma mb mc : Nv → Mo Dt} {σ : St} {H : Hp} {Q : VK} (h : tE K cl W (mChain f g ma mb mc) σ H Q) : tChain r r' (tE K cl W ma) (tE K cl W mb) (tE K cl W mc) σ H Q := by
  obtain ⟨φ, ρ, S, e, s, h⟩ := h
  refine (tE.b1 (f := fun d ρ => mb ρ >>= fun e => (Mo.rd (f d e)) >>= fun t => (Mo.rd fun _ => t.tru) >>= fun b => if b = true then mc ρ >>= fun g' => Mo.rd (g e g') else Mo.ret (.bl false)) e s h).imp fun x H1 ⟨φ1, S1, d, x1, e1, s1, r1, p⟩ => ?_
  refine (tE.b1 (f := fun e ρ => (Mo.rd (f d e)) >>= fun t => (Mo.rd fun _ => t.tru) >>= fun b => if b = true then mc ρ >>= fun g' => Mo.rd (g e g') else Mo.ret (.bl false)) e1 s1 p).imp fun y H2 ⟨φ2, S2, d2, x2, e2, s2, r2, p2⟩ => ?_
  obtain ⟨t, ht, q⟩ := p2.bnd.rd
  refine hs φ2 H2 S2 d d2 x y t _ s2 (Rep.mono x2 _ _ r1) r2 ht fun φ3 H3 z x3 s3 r3 => ?_
  obtain ⟨b, hb, q2⟩ := (q φ3 H3 x3 s3).bnd.rd
  have q2 := q2 φ3 H3 (Ext.refl _ _) s3
  refine ⟨b, tru_of r3 hb, ?_⟩
  cases b with
  | true =>
    rw [if_pos rfl] at q2 ⊢
    refine (tE.b1 (f := fun g' _ => Mo.rd (g d2 g')) (e2.mono x3) s3 q2).imp fun w' H4 ⟨φ4, S4, d4, x4, e4, s4, r4, p4⟩ => ?_
    obtain ⟨d', h1, h2⟩ := p4.rd
    exact hs' φ4 H4 S4 d2 d4 y w' d' Q s4 (Rep.mono x4 _ _ (Rep.mono x3 _ _ r2)) r4 h1 fun φ5 H5 u a b c => h2 φ5 H5 a b u c
  | false =>
    rw [if_neg Bool.false_ne_true] at q2 ⊢
    exact q2.ok s3 _ rfl
theorem em_chain {op op' : CmpOp} {a b c : Expr} {pos : Pos} {r r' : R2} {f g : Dt → Dt → Sto → Option Dt} {ma mb mc : Nv → Mo Dt} (ho : OpR X (compareOp op) r) (ho' : OpR X (compareOp op') r') (hs : Sd2 X.K f r) (hs' : Sd2 X.K g r') (ha : PEm cl W X a ma) (hb : PEm cl W X b mb) (hc : PEm cl W X c mc)
    (hm : lastMarks [op, op'] [b, c] = false := by with_unfolding_all rfl) : PEm cl W X (.Compare a [op, op'] [b, c] pos) (mChain f g ma mb mc) :=
  PE_imp (pe_chain ho ho' ha hb hc hm) fun _ _ _ h => rdChain hs hs' h
theorem tm_chain {op op' : CmpOp} {a b c : Expr} {pos : Pos} {r r' : R2} {f g : Dt → Dt → Sto → Option Dt} {ma mb mc : Nv → Mo Dt} (ho : OpR X (compareOp op) r) (ho' : OpR X (compareOp op') r') (hs : Sd2 X.K f r) (hs' : Sd2 X.K g r') (ha : PEm cl W X a ma) (hb : PEm cl W X b mb) (hc : PEm cl W X c mc)
    (hm : lastMarks [op, op'] [b, c] = false := by with_unfolding_all rfl) : PTm cl W X (.Compare a [op, op'] [b, c] pos) (mB (mChain f g ma mb mc)) :=
  PT_imp (pt_chain ho ho' ha hb hc hm) fun _ _ _ h => rdChain hs hs' (tT.val h)
end
end ML

set_option Elab.async false
set_option linter.all false
set_option maxRecDepth 100000
set_option maxHeartbeats 1000000
/-! ML: operations on data. -/
namespace ML
open PySem PySem.Spec L2
open PyProof.Rows hiding St

theorem Reps.get {K φ H} : ∀ {ds : List Dt} {vs : List V}, Reps K φ H ds vs → ∀ {j : Nat} {d : Dt}, ds[j]? = some d → ∃ v, vs[j]? = some v ∧ Rep K φ H d v
  | [], vs, h, j, d, e => by simp at e
  | x :: xs, vs, h, 0, d, e => by
    obtain ⟨v, r, z, a, b⟩ := (show ∃ v r, vs = v :: r ∧ Rep K φ H x v ∧ Reps K φ H xs r from h)
    simp at e
    subst e z
    exact ⟨v, rfl, a⟩
  | x :: xs, vs, h, j + 1, d, e => by
    obtain ⟨v, r, z, a, b⟩ := (show ∃ v r, vs = v :: r ∧ Rep K φ H x v ∧ Reps K φ H xs r from h)
    subst z
    exact Reps.get b (by simpa using e)
theorem Reps.app {K φ H} : ∀ {ds es : List Dt} {vs us : List V}, Reps K φ H ds vs → Reps K φ H es us → Reps K φ H (ds ++ es) (vs ++ us)
  | [], es, vs, us, h, g => by
    obtain rfl : vs = [] := h
    exact g
  | x :: xs, es, vs, us, h, g => by
    obtain ⟨v, r, z, a, b⟩ := (show ∃ v r, vs = v :: r ∧ Rep K φ H x v ∧ Reps K φ H xs r from h)
    subst z
    exact ⟨v, r ++ us, rfl, a, Reps.app b g⟩
theorem Reps.tak {K φ H} : ∀ {ds : List Dt} {vs : List V} (n : Nat), Reps K φ H ds vs → Reps K φ H (ds.take n) (vs.take n)
  | [], vs, n, h => by
    obtain rfl : vs = [] := h
    rw [List.take_nil, List.take_nil]; exact rfl
  | x :: xs, vs, 0, h => rfl
  | x :: xs, vs, n + 1, h => by
    obtain ⟨v, r, z, a, b⟩ := (show ∃ v r, vs = v :: r ∧ Rep K φ H x v ∧ Reps K φ H xs r from h)
    subst z
    exact ⟨v, r.take n, rfl, a, Reps.tak n b⟩
theorem Reps.drp {K φ H} : ∀ {ds : List Dt} {vs : List V} (n : Nat), Reps K φ H ds vs → Reps K φ H (ds.drop n) (vs.drop n)
  | [], vs, n, h => by
    obtain rfl : vs = [] := h
    rw [List.drop_nil, List.drop_nil]; exact rfl
  | x :: xs, vs, 0, h => h
  | x :: xs, vs, n + 1, h => by
    obtain ⟨v, r, z, a, b⟩ := (show ∃ v r, vs = v :: r ∧ Rep K φ H x v ∧ Reps K φ H xs r from h)
    subst z
    exact Reps.drp n b
theorem Reps.setAt {K φ H} {d : Dt} {u : V} (q : Rep K φ H d u) : ∀ {ds : List Dt} {vs : List V} (n : Nat), Reps K φ H ds vs → Reps K φ H (ds.set n d) (vs.set n u)
  | [], vs, n, h => by
    obtain rfl : vs = [] := h
    exact rfl
  | x :: xs, vs, 0, h => by
    obtain ⟨v, r, z, a, b⟩ := (show ∃ v r, vs = v :: r ∧ Rep K φ H x v ∧ Reps K φ H xs r from h)
    subst z
    exact ⟨u, r, rfl, q, b⟩
  | x :: xs, vs, n + 1, h => by
    obtain ⟨v, r, z, a, b⟩ := (show ∃ v r, vs = v :: r ∧ Rep K φ H x v ∧ Reps K φ H xs r from h)
    subst z
    exact ⟨v, r.set n u, rfl, a, Reps.setAt q n b⟩
theorem Reps.rep {K φ H} {ds : List Dt} {vs : List V} (h : Reps K φ H ds vs) : ∀ k : Nat, Reps K φ H (List.replicate k ds).flatten (List.replicate k vs).flatten
  | 0 => rfl
  | k + 1 => by
    rw [List.replicate_succ, List.replicate_succ, List.flatten_cons, List.flatten_cons]
    exact Reps.app h (Reps.rep h k)
theorem Reps.at_ {K φ H} {ds : List Dt} {vs : List V} (h : Reps K φ H ds vs) {i : Int} {d : Dt} (e : atI ds i = some d) : ∃ v, atI vs i = some v ∧ Rep K φ H d v := by
  unfold atI at e ⊢
  rw [← h.length]
  cases q : ixN ds.length i with
  | none => rw [q] at e; cases e
  | some j =>
    rw [q] at e
    exact Reps.get h e
theorem Reps.nil_of {K φ H} {vs : List V} (h : Reps K φ H [] vs) : vs = [] := h
theorem Reps.nil_iff {K φ H} {ds : List Dt} {vs : List V} (h : Reps K φ H ds vs) : ds = [] ↔ vs = [] := by
  constructor
  · intro e; subst e; exact h
  · intro e; subst e
    cases ds with
    | nil => rfl
    | cons x xs => obtain ⟨v, r, z, _⟩ := h; cases z
theorem Reps.ints {K φ H} : ∀ {ns : List Int} {vs : List V}, Reps K φ H (ns.map Dt.int) vs → vs = ns.map V.int
  | [], vs, h => h
  | n :: ns, vs, h => by
    obtain ⟨v, r, z, a, b⟩ := (show ∃ v r, vs = v :: r ∧ Rep K φ H (Dt.int n) v ∧ Reps K φ H (ns.map Dt.int) r from h)
    obtain rfl : v = .int n := a
    rw [z, Reps.ints b]; rfl
theorem Reps.of_ints {K φ H} : ∀ (ns : List Int), Reps K φ H (ns.map Dt.int) (ns.map V.int)
  | [] => rfl
  | n :: ns => ⟨_, _, rfl, rfl, Reps.of_ints ns⟩
theorem Reps.strs {K φ H} : ∀ {ns : List Str} {vs : List V}, Reps K φ H (ns.map Dt.str) vs → vs = ns.map V.str
  | [], vs, h => h
  | n :: ns, vs, h => by
    obtain ⟨v, r, z, a, b⟩ := (show ∃ v r, vs = v :: r ∧ Rep K φ H (Dt.str n) v ∧ Reps K φ H (ns.map Dt.str) r from h)
    obtain rfl : v = .str n := a
    rw [z, Reps.strs b]; rfl
theorem Reps.bls {K φ H} : ∀ {ns : List Bool} {vs : List V}, Reps K φ H (ns.map Dt.bl) vs → vs = ns.map V.bl
  | [], vs, h => h
  | n :: ns, vs, h => by
    obtain ⟨v, r, z, a, b⟩ := (show ∃ v r, vs = v :: r ∧ Rep K φ H (Dt.bl n) v ∧ Reps K φ H (ns.map Dt.bl) r from h)
    obtain rfl : v = .bl n := a
    rw [z, Reps.bls b]; rfl

/-! ### arithmetic, joining -/
theorem ifSome {c : Prop} [Decidable c] {α : Type} {a b : α} (h : (if c then some a else none) = some b) : c ∧ a = b := by
  by_cases q : c
  · rw [if_pos q] at h; exact ⟨q, Option.some.inj h⟩
  · rw [if_neg q] at h; cases h
def cap : Nat := 100000
theorem cap_line {n : Nat} (h : n ≤ cap) : n ≤ sizeLine := by rw [sizeLine_eq]; unfold cap at h; omega
def bAdd : Dt → Dt → Sto → Option Dt
  | .int i, .int j, _ => some (.int (i + j))
  | .str x, .str y, _ => if x.length + y.length ≤ cap then some (.str (x ++ y)) else none
  | .tup xs, .tup ys, _ => if xs.length + ys.length ≤ cap then some (.tup (xs ++ ys)) else none
  | .lst xs, .lst ys, _ => if xs.length + ys.length ≤ cap then some (.lst (xs ++ ys)) else none
  | _, _, _ => none
def rAdd4 (K : PySem.W.Frag) : R2 := fun x y H Q => (rI0 fun i j => .int (i + j)) x y H Q ∨ (∃ i j, x = .str i ∧ y = .str j ∧ i.length + j.length ≤ sizeLine ∧ Q (.str (i ++ j)) H) ∨ rCatA K x y H Q ∨ rCat x y H Q
theorem op_add4 {X : Cx} : OpR X (binaryOp .Add) (rAdd4 X.K) := op_add.or (op_add_str.or (op_catA.or op_cat))
theorem sAdd {K : PySem.W.Frag} : Sd2 K bAdd (rAdd4 K) := by
  intro φ H S d e x y d' Q s r1 r2 hf k
  cases d <;> cases e <;> try (exact absurd (show (none : Option Dt) = some d' from hf) (fun z => nomatch z))
  · rename_i i j
    cases hf
    obtain rfl : x = .int i := r1
    obtain rfl : y = .int j := r2
    exact .inl ⟨i, j, rfl, rfl, k φ H _ (Ext.refl _ _) s rfl⟩
  · rename_i i j
    obtain ⟨hl, rfl⟩ := ifSome hf
    · skip
      obtain rfl : x = .str i := r1
      obtain rfl : y = .str j := r2
      exact .inr (.inl ⟨i, j, rfl, rfl, cap_line hl, k φ H _ (Ext.refl _ _) s rfl⟩)
  · rename_i xs ys
    obtain ⟨hl, rfl⟩ := ifSome hf
    · skip
      obtain ⟨a, vs, rfl, t, q⟩ := r1
      obtain ⟨b, us, rfl, t', q'⟩ := r2
      refine .inr (.inr (.inl ⟨a, b, vs, us, rfl, rfl, t.seq, t'.seq, cap_line (by rw [← q.length, ← q'.length]; exact hl), fun e => ?_, fun e e' => ?_, fun e e' p n => ?_⟩))
      · obtain rfl := q.nil_iff.mpr e
        exact k φ H _ (Ext.refl _ _) s ⟨b, us, rfl, t', q'⟩
      · obtain rfl := q'.nil_iff.mpr e'
        rw [List.append_nil] at k
        exact k φ H _ (Ext.refl _ _) s ⟨a, vs, rfl, t, q⟩
      · exact k φ _ _ (Ext.out s n) (s.out n) (Rep.newTup s n (Reps.app q q'))
  · rename_i xs ys
    obtain ⟨hl, rfl⟩ := ifSome hf
    · skip
      obtain ⟨a, vs, rfl, t, q⟩ := r1
      obtain ⟨b, us, rfl, t', q'⟩ := r2
      exact .inr (.inr (.inr ⟨a, b, vs, us, rfl, rfl, t.2, t'.2, cap_line (by rw [← q.length, ← q'.length]; exact hl), fun p n => k φ _ _ (Ext.out s n) (s.out n) (Rep.newLst s n (Reps.app q q'))⟩))
def bInt (C : Int → Int → Prop) [∀ i j, Decidable (C i j)] (g : Int → Int → Int) : Dt → Dt → Sto → Option Dt
  | .int i, .int j, _ => if C i j then some (.int (g i j)) else none
  | _, _, _ => none
theorem sInt {K : PySem.W.Frag} {C : Int → Int → Prop} [∀ i j, Decidable (C i j)] {g : Int → Int → Int} {D : Int → Int → Prop} (hD : ∀ i j, C i j → D i j) : Sd2 K (bInt C g) (rI D fun i j => .int (g i j)) := by
  intro φ H S d e x y d' Q s r1 r2 hf k
  cases d <;> cases e <;> try (exact absurd (show (none : Option Dt) = some d' from hf) (fun z => nomatch z))
  rename_i i j
  obtain ⟨hl, rfl⟩ := ifSome hf
  obtain rfl : x = .int i := r1
  obtain rfl : y = .int j := r2
  exact ⟨i, j, rfl, rfl, hD _ _ hl, k φ H _ (Ext.refl _ _) s rfl⟩
def bSub : Dt → Dt → Sto → Option Dt
  | .int i, .int j, _ => some (.int (i - j))
  | _, _, _ => none
theorem sSub {K : PySem.W.Frag} : Sd2 K bSub (rI0 fun i j => .int (i - j)) := by
  intro φ H S d e x y d' Q s r1 r2 hf k
  cases d <;> cases e <;> try (exact absurd (show (none : Option Dt) = some d' from hf) (fun z => nomatch z))
  cases hf
  rename_i i j
  obtain rfl : x = .int i := r1
  obtain rfl : y = .int j := r2
  exact ⟨i, j, rfl, rfl, k φ H _ (Ext.refl _ _) s rfl⟩
/-- // by a positive number below 2 ^ 8000, % by a positive one, powers -/
abbrev bDiv := bInt (fun _ j => 0 < j ∧ j.natAbs.log2 < 9000) fun i j => i / j
abbrev bMod := bInt (fun _ j => 0 < j) fun i j => i % j
abbrev bPow := bInt (fun i j => 0 ≤ j ∧ j ≤ 1000 ∧ i.natAbs < 2 ^ 64) fun i j => i ^ j.toNat
theorem sDiv {K : PySem.W.Frag} : Sd2 K bDiv (rI CDivW fun i j => .int (i / j)) := sInt fun _ _ h => h
theorem sMod {K : PySem.W.Frag} : Sd2 K bMod (rI (fun _ j => 0 < j) fun i j => .int (i % j)) := sInt fun _ _ h => h
theorem sPow {K : PySem.W.Frag} : Sd2 K bPow (rI CPow fun i j => .int (i ^ j.toNat)) := sInt fun _ _ h => ⟨h.1, by omega, h.2.2⟩

/-! ### times -/
theorem tup_mul1 (l : Addr) (its : Array Value) (n : Nat) (dd : Option Addr) (sl : Array (Option Value)) (u : Tok) :
    Meets (Builtin.«tuple.__mul__» ⟨[.ref l, .int 1 u], []⟩) (fun _ R s => s.heap.get? l = some { cls := .type "tuple", dict := dd, data := .seq its n, slots := sl } ∧ R (.ok (.ret (.ref l))) s) :=
  .of_wp fun prog w A R s h => by
    obtain ⟨hp, g, d, tk, os⟩ := s
    obtain ⟨hl, h⟩ := h
    have f1 := AutoSeq1.idx_int
    wp_walk using wpAny_loadPart' hl
    exact ⟨_, rfl, h⟩
theorem tup_mul0 (l : Addr) (x : Value) (n : Nat) (dd : Option Addr) (sl : Array (Option Value)) (u : Tok) :
    Meets (Builtin.«tuple.__mul__» ⟨[.ref l, .int 0 u], []⟩) (fun _ R s => s.heap.get? l = some { cls := .type "tuple", dict := dd, data := .seq #[x] n, slots := sl } ∧
      R (.ok (.ret (Value.ref s.heap.objs.size))) { s with heap := s.heap.push { cls := Value.type "tuple", data := Data.seq #[] } }) :=
  .of_wp fun prog w A R s h => by
    obtain ⟨hp, g, d, tk, os⟩ := s
    obtain ⟨hl, h⟩ := h
    have f1 := AutoSeq1.idx_int
    wp_walk using wpAny_loadPart' hl
    exact ⟨_, rfl, h⟩
def rRep01 (K : PySem.W.Frag) : R2 := fun x y H Q => ∃ l v, x = .ref l ∧ SqT K H l [v] ∧ ((y = .int 1 ∧ Q (.ref l) H) ∨ (y = .int 0 ∧ ∀ p, H p = none → Q (.ref p) (upd H p (.tup []))))
theorem op_rep01 {X : Cx} : OpR X (binaryOp .Mult) (rRep01 X.K) := by
  intro pins s σ H x y v u Q I rx ry h
  obtain ⟨l, z, rfl, hT, h⟩ := h
  cases rx
  obtain ⟨its, r, ⟨⟨cls, dd, data, sl⟩, ho, hc, n, hd⟩, hs⟩ := I.tuple hT
  simp only at hc hd
  subst hc hd
  rcases h with ⟨rfl, q⟩ | ⟨rfl, q⟩
  · obtain ⟨t, rfl⟩ := ry
    refine wpAny_binaryOp_repeat_ref (T := "tuple") (U := "int") (by decide) ⟨_, ho, rfl⟩ (fun s' => typeIs_int s' 1 t) noFill_tuple_mul F.fills_int_mul F.slot_int_rmul repeat_tuple F.slot_int_index.lookup ?_
    refine call_meets F.slot_int_rmul (typeIs_int s 1 t) F.entry_int_rmul (F.args_int_rmul_2 _ _) (int_rmul_tuple 1 t l its.toArray n dd sl) ⟨ho, rfl, ⟨_, ho, rfl⟩, ?_⟩
    exact call_meets F.slot_tuple_mul ⟨_, ho, rfl⟩ F.entry_tuple_mul (F.args_tuple_mul_2 _ _) (tup_mul1 l its.toArray n dd sl t) ⟨ho, ⟨.ref l, H, I, rfl, q⟩⟩
  · obtain ⟨t, rfl⟩ := ry
    obtain ⟨w1, rfl, _⟩ := vals1 r
    refine wpAny_binaryOp_repeat_ref (T := "tuple") (U := "int") (by decide) ⟨_, ho, rfl⟩ (fun s' => typeIs_int s' 0 t) noFill_tuple_mul F.fills_int_mul F.slot_int_rmul repeat_tuple F.slot_int_index.lookup ?_
    refine call_meets F.slot_int_rmul (typeIs_int s 0 t) F.entry_int_rmul (F.args_int_rmul_2 _ _) (int_rmul_tuple 0 t l _ n dd sl) ⟨ho, rfl, ⟨_, ho, rfl⟩, ?_⟩
    refine call_meets F.slot_tuple_mul ⟨_, ho, rfl⟩ F.entry_tuple_mul (F.args_tuple_mul_2 _ _) (tup_mul0 l w1 n dd sl t) ⟨ho, ?_⟩
    refine ⟨.ref s.heap.objs.size, _, I.laid (t' := s.toks) (o := .tup []) (fun b ob q => Heap.get?_push_of_some _ q) (Nat.le_refl _) ?_, rfl, q _ (I.hok.fresh (Nat.le_refl _))⟩
    exact ⟨Nat.zero_le _, [], .nil, IsTup.new _ _⟩
def mulOk (i j : Int) : Bool := decide (i.natAbs < 2 ^ 63) || decide (j.natAbs < 2 ^ 63) || decide (i.natAbs.log2 + j.natAbs.log2 < 1000000)
def bMul : Dt → Dt → Sto → Option Dt
  | .int i, .int j, _ => if mulOk i j = true then some (.int (i * j)) else none
  | .tup xs, .int k, _ => if xs.length = 1 ∧ 0 ≤ k ∧ k ≤ 1000 then some (.tup (List.replicate k.toNat xs).flatten) else none
  | .lst xs, .int k, _ => if 0 ≤ k ∧ k ≤ 1000 ∧ xs.length ≤ 1000 then some (.lst (List.replicate k.toNat xs).flatten) else none
  | _, _, _ => none
def rMul5 (K : PySem.W.Frag) : R2 := fun x y H Q => (rI CMul fun i j => .int (i * j)) x y H Q ∨ (rI CMulW fun i j => .int (i * j)) x y H Q ∨ rRepT K x y H Q ∨ rRep01 K x y H Q ∨ rRep x y H Q
theorem op_mul5 {X : Cx} : OpR X (binaryOp .Mult) (rMul5 X.K) := op_mul.or (op_mulW.or (op_repT.or (op_rep01.or op_rep)))
theorem sMul {K : PySem.W.Frag} : Sd2 K bMul (rMul5 K) := by
  intro φ H S d e x y d' Q s r1 r2 hf k
  cases d <;> cases e <;> try (exact absurd (show (none : Option Dt) = some d' from hf) (fun z => nomatch z))
  · rename_i i j
    obtain ⟨hl, rfl⟩ := ifSome hf
    obtain rfl : x = .int i := r1
    obtain rfl : y = .int j := r2
    simp only [mulOk, Bool.or_eq_true, decide_eq_true_eq] at hl
    have q := k φ H _ (Ext.refl _ _) s rfl
    rcases hl with (hl | hl) | hl
    · exact .inl ⟨i, j, rfl, rfl, .inl (by omega), q⟩
    · exact .inl ⟨i, j, rfl, rfl, .inr (by omega), q⟩
    · exact .inr (.inl ⟨i, j, rfl, rfl, hl, q⟩)
  · rename_i xs n
    obtain ⟨⟨h1, h2, h3⟩, rfl⟩ := ifSome hf
    obtain ⟨a, vs, rfl, t, q⟩ := r1
    obtain rfl : y = .int n := r2
    have hv : vs.length = 1 := by rw [← q.length]; exact h1
    by_cases c2 : 2 ≤ n
    · exact .inr (.inr (.inl ⟨a, n, vs, rfl, rfl, t.seq, (fun z => by rw [z] at hv; cases hv), c2, h3, by omega, fun p np => k φ _ _ (Ext.out s np) (s.out np) (Rep.newTup s np (q.rep n.toNat))⟩))
    · obtain ⟨v, rfl⟩ := List.length_eq_one_iff.mp hv
      obtain ⟨d0, rfl⟩ := List.length_eq_one_iff.mp h1
      refine .inr (.inr (.inr (.inl ⟨a, v, rfl, t.seq, ?_⟩)))
      by_cases c1 : n = 1
      · subst c1
        exact .inl ⟨rfl, k φ H _ (Ext.refl _ _) s ⟨a, [v], rfl, t, q⟩⟩
      · obtain rfl : n = 0 := by omega
        exact .inr ⟨rfl, fun p np => k φ _ _ (Ext.out s np) (s.out np) (Rep.newTup s np rfl)⟩
  · rename_i xs n
    obtain ⟨⟨h1, h2, h3⟩, rfl⟩ := ifSome hf
    obtain ⟨a, vs, rfl, t, q⟩ := r1
    obtain rfl : y = .int n := r2
    refine .inr (.inr (.inr (.inr ⟨a, n, vs, rfl, rfl, t.2, by omega, by omega, ?_, fun p np => k φ _ _ (Ext.out s np) (s.out np) (Rep.newLst s np (q.rep n.toNat))⟩)))
    rw [← q.length, sizeLine_eq]
    have a1 : xs.length * n.toNat ≤ 1000 * 1000 := Nat.mul_le_mul h3 (by omega)
    omega
def uNeg : Dt → Sto → Option Dt
  | .int i, _ => some (.int (-i))
  | _, _ => none
theorem sNeg {K : PySem.W.Frag} : Sd1 K uNeg (rU fun i => .int (-i)) := by
  intro φ H S d x d' Q s r1 hf k
  cases d <;> try (exact absurd (show (none : Option Dt) = some d' from hf) (fun z => nomatch z))
  cases hf
  rename_i i
  obtain rfl : x = .int i := r1
  exact ⟨i, rfl, k φ H _ (Ext.refl _ _) s rfl⟩

/-! ### comparisons -/
def cInt (p : Int → Int → Bool) : Dt → Dt → Sto → Option Dt
  | .int i, .int j, _ => some (.bl (p i j))
  | _, _, _ => none
theorem sCmp {K : PySem.W.Frag} {p : Int → Int → Bool} : Sd2 K (cInt p) (rI0 fun i j => .bl (p i j)) := by
  intro φ H S d e x y d' Q s r1 r2 hf k
  cases d <;> cases e <;> try (exact absurd (show (none : Option Dt) = some d' from hf) (fun z => nomatch z))
  cases hf
  rename_i i j
  obtain rfl : x = .int i := r1
  obtain rfl : y = .int j := r2
  exact ⟨i, j, rfl, rfl, k φ H _ (Ext.refl _ _) s rfl⟩
abbrev cLt := cInt fun i j => decide (i < j)
abbrev cLe := cInt fun i j => decide (i ≤ j)
abbrev cGt := cInt fun i j => decide (j < i)
abbrev cGe := cInt fun i j => decide (j ≤ i)
/-! data as the library names it -/
mutual
def Dt.py : Dt → Option PyData
  | .non => some .none
  | .bl b => some (.bool b)
  | .int i => some (.int i)
  | .str x => some (.str x)
  | .tup xs => (Dt.pys xs).map .tuple
  | .lst xs => (Dt.pys xs).map .list
  | _ => none
def Dt.pys : List Dt → Option (List PyData)
  | [] => some []
  | x :: xs => match Dt.py x, Dt.pys xs with
    | some p, some ps => some (p :: ps)
    | _, _ => none
end
mutual
theorem Rep.dp {K φ H} : ∀ (d : Dt) (v : V) (p : PyData), Rep K φ H d v → d.py = some p → Dp K H v p
  | .non, v, p, r, h => by
    obtain rfl : v = .non := r
    cases (show some PyData.none = some p from h); exact .non
  | .bl b, v, p, r, h => by
    obtain rfl : v = .bl b := r
    cases (show some (PyData.bool b) = some p from h); exact .bl b
  | .int i, v, p, r, h => by
    obtain rfl : v = .int i := r
    cases (show some (PyData.int i) = some p from h); exact .int i
  | .str x, v, p, r, h => by
    obtain rfl : v = .str x := r
    cases (show some (PyData.str x) = some p from h); exact .str x
  | .tup xs, v, p, r, h => by
    obtain ⟨a, vs, rfl, t, q⟩ := (show ∃ a vs, v = .ref a ∧ TupAt K φ H a vs ∧ Reps K φ H xs vs from r)
    have h : (Dt.pys xs).map PyData.tuple = some p := h
    cases e : Dt.pys xs with
    | none => rw [e] at h; cases h
    | some ps =>
      rw [e] at h; cases h
      exact .tup t.seq (Reps.dps xs vs ps q e)
  | .lst xs, v, p, r, h => by
    obtain ⟨a, vs, rfl, t, q⟩ := (show ∃ a vs, v = .ref a ∧ LstAt φ H a vs ∧ Reps K φ H xs vs from r)
    have h : (Dt.pys xs).map PyData.list = some p := h
    cases e : Dt.pys xs with
    | none => rw [e] at h; cases h
    | some ps =>
      rw [e] at h; cases h
      exact .lst t.seq (Reps.dps xs vs ps q e)
  | .dct _ _, _, _, _, h => by cases (show none = some _ from h)
  | .obj _, _, _, _, h => by cases (show none = some _ from h)
  | .raw _, _, _, _, h => by cases (show none = some _ from h)
  | .scr _, _, _, _, h => by cases (show none = some _ from h)
theorem Reps.dps {K φ H} : ∀ (ds : List Dt) (vs : List V) (ps : List PyData), Reps K φ H ds vs → Dt.pys ds = some ps → DpAll K H vs ps
  | [], vs, ps, r, h => by
    obtain rfl : vs = [] := r
    cases (show some [] = some ps from h); exact .nil
  | x :: xs, vs, ps, r, h => by
    obtain ⟨v, q, rfl, a, b⟩ := (show ∃ v r, vs = v :: r ∧ Rep K φ H x v ∧ Reps K φ H xs r from r)
    have h : (match Dt.py x, Dt.pys xs with
      | some p, some ps => some (p :: ps)
      | _, _ => none) = some ps := h
    cases e1 : Dt.py x with
    | none => rw [e1] at h; cases h
    | some p =>
      cases e2 : Dt.pys xs with
      | none => rw [e1, e2] at h; cases h
      | some ps' =>
        rw [e1, e2] at h; cases h
        exact .cons (Rep.dp x v p a e1) (Reps.dps xs q ps' b e2)
end
def eqv2 (d e : Dt) : Option Bool := match d.py, e.py with
  | some p, some q => if SeqAt.shaped p = true ∧ SeqAt.shaped q = true then some (PyData.eqv p q) else none
  | _, _ => none
theorem eqv2_of {d e : Dt} {b : Bool} (h : eqv2 d e = some b) : ∃ p q, d.py = some p ∧ e.py = some q ∧ SeqAt.shaped p = true ∧ SeqAt.shaped q = true ∧ PyData.eqv p q = b := by
  unfold eqv2 at h
  cases e1 : d.py with
  | none => rw [e1] at h; cases h
  | some p =>
    cases e2 : e.py with
    | none => rw [e1, e2] at h; cases h
    | some q =>
      rw [e1, e2] at h
      obtain ⟨⟨a, b⟩, c⟩ := ifSome h
      exact ⟨p, q, rfl, rfl, a, b, c⟩
def cEq (d e : Dt) : Sto → Option Dt := fun _ => (eqv2 d e).map Dt.bl
def cNe (d e : Dt) : Sto → Option Dt := fun _ => (eqv2 d e).map fun b => Dt.bl (!b)
theorem sEq {K : PySem.W.Frag} : Sd2 K cEq (rEqD K) := by
  intro φ H S d e x y d' Q s r1 r2 hf k
  have hf : (eqv2 d e).map Dt.bl = some d' := hf
  cases q : eqv2 d e with
  | none => rw [q] at hf; cases hf
  | some b =>
    rw [q] at hf; cases hf
    obtain ⟨p1, p2, a1, a2, b1, b2, rfl⟩ := eqv2_of q
    exact ⟨p1, p2, Rep.dp d x p1 r1 a1, Rep.dp e y p2 r2 a2, b1, b2, k φ H _ (Ext.refl _ _) s rfl⟩
theorem sNe {K : PySem.W.Frag} : Sd2 K cNe (rNeD K) := by
  intro φ H S d e x y d' Q s r1 r2 hf k
  have hf : (eqv2 d e).map (fun b => Dt.bl (!b)) = some d' := hf
  cases q : eqv2 d e with
  | none => rw [q] at hf; cases hf
  | some b =>
    rw [q] at hf; cases hf
    obtain ⟨p1, p2, a1, a2, b1, b2, rfl⟩ := eqv2_of q
    exact ⟨p1, p2, Rep.dp d x p1 r1 a1, Rep.dp e y p2 r2 a2, b1, b2, k φ H _ (Ext.refl _ _) s rfl⟩
/-! dicts, by keys -/
def look : List Key → List Dt → Key → Option Dt
  | k :: ks, x :: xs, j => if k = j then some x else look ks xs j
  | _, _, _ => none
def Dt.key : Dt → Option Key
  | .int i => some (.inl i)
  | .str x => some (.inr x)
  | _ => none
theorem Rep.key {K φ H d v k} (r : Rep K φ H d v) (h : d.key = some k) : v = kV k := by
  cases d <;> first
    | (cases h; exact r)
    | cases h
theorem look_val {K φ H} : ∀ {ks : List Key} {xs : List Dt} {kvs : List (Key × V)} (j : Key), kvs.map (·.1) = ks → Reps K φ H xs (kvs.map (·.2)) → (look ks xs j = none ∧ valV kvs j = none) ∨ ∃ d v, look ks xs j = some d ∧ valV kvs j = some v ∧ Rep K φ H d v
  | ks, xs, [], j, h1, h2 => by
    subst h1
    exact .inl ⟨rfl, rfl⟩
  | ks, [], kv :: kvs, j, h1, h2 => by cases (show kv.2 :: kvs.map (·.2) = [] from h2)
  | ks, x :: xs, kv :: kvs, j, h1, h2 => by
    subst h1
    obtain ⟨v, r, z, a, b⟩ := (show ∃ v r, kv.2 :: kvs.map (·.2) = v :: r ∧ Rep K φ H x v ∧ Reps K φ H xs r from h2)
    cases z
    show ((if kv.1 = j then some x else look (kvs.map (·.1)) xs j) = none ∧ _) ∨ ∃ d v, (if kv.1 = j then some x else look (kvs.map (·.1)) xs j) = some d ∧ _
    by_cases hk : kv.1 = j
    · rw [if_pos hk, valV_pos hk]
      exact .inr ⟨x, kv.2, rfl, rfl, a⟩
    · rw [if_neg hk, valV_neg hk]
      exact look_val j rfl b
/-- what a dict is -/
def Dt.dict (d : Dt) (S : Sto) : Option (List Key × List Dt) := match d with
  | .dct ks xs => some (ks, xs)
  | .obj n => match S[n]? with
    | some (.dK ks xs) => some (ks, xs)
    | _ => none
  | _ => none
theorem Rep.dict {K φ S H d v ks xs} (s : RepS K φ S H) (r : Rep K φ H d v) (h : d.dict S = some (ks, xs)) : ∃ a kvs, v = .ref a ∧ H a = some (.dK kvs) ∧ kvs.map (·.1) = ks ∧ Reps K φ H xs (kvs.map (·.2)) := by
  cases d <;> try (exact absurd (show (none : Option (List Key × List Dt)) = some (ks, xs) from h) (fun z => nomatch z))
  · cases h
    obtain ⟨a, kvs, rfl, n, e, z, q⟩ := r
    exact ⟨a, kvs, rfl, e, z, q⟩
  · rename_i n
    obtain ⟨a, rfl, e⟩ := r
    have h : (match S[n]? with | some (.dK ks xs) => some (ks, xs) | _ => none) = some (ks, xs) := h
    cases q : S[n]? with
    | none => rw [q] at h; cases h
    | some o =>
      rw [q] at h
      cases o with
      | lst ys => cases h
      | dK ks' xs' =>
        cases h
        obtain ⟨kvs, e1, e2, e3⟩ := s.ob n a _ e q
        exact ⟨a, kvs, rfl, e1, e2, e3⟩
/-- what a row is: a tuple, a list -/
def Dt.row (d : Dt) (S : Sto) : Option (List Dt) := match d with
  | .tup xs => some xs
  | .lst xs => some xs
  | .obj n => match S[n]? with
    | some (.lst xs) => some xs
    | _ => none
  | .scr ns => some (ns.map Dt.int)
  | _ => none
theorem Rep.row {K φ S H d v xs} (s : RepS K φ S H) (r : Rep K φ H d v) (h : d.row S = some xs) : ∃ a vs, v = .ref a ∧ (SqL K H a vs ∨ SqT K H a vs) ∧ Reps K φ H xs vs := by
  cases d <;> try (exact absurd (show (none : Option (List Dt)) = some xs from h) (fun z => nomatch z))
  · cases h
    obtain ⟨a, vs, rfl, e, q⟩ := r
    exact ⟨a, vs, rfl, .inr e.seq, q⟩
  · cases h
    obtain ⟨a, vs, rfl, e, q⟩ := r
    exact ⟨a, vs, rfl, .inl e.seq, q⟩
  · rename_i n
    obtain ⟨a, rfl, e⟩ := r
    have h : (match S[n]? with | some (.lst xs) => some xs | _ => none) = some xs := h
    cases q : S[n]? with
    | none => rw [q] at h; cases h
    | some o =>
      rw [q] at h
      cases o with
      | lst ys =>
        cases h
        obtain ⟨vs, e1, e2⟩ := s.ob n a _ e q
        exact ⟨a, vs, rfl, .inl (.inl (.inl e1)), e2⟩
      | dK ks' xs' => cases h
  · cases h
    rename_i ns
    obtain ⟨a, rfl, e⟩ := r
    exact ⟨a, _, rfl, .inl e.seq, Reps.of_ints ns⟩
end ML

set_option Elab.async false
set_option linter.all false
set_option maxRecDepth 100000
set_option maxHeartbeats 1000000
/-! ML: in, items, slices, built-in calls. -/
namespace ML
open PySem PySem.Spec L2
open PyProof.Rows hiding St

def orElse2 (f g : Dt → Dt → Sto → Option Dt) : Dt → Dt → Sto → Option Dt := fun d e S => match f d e S with
  | some x => some x
  | none => g d e S
theorem Sd2.or {K : PySem.W.Frag} {f g : Dt → Dt → Sto → Option Dt} {r r' : R2} (h : Sd2 K f r) (h' : Sd2 K g r') : Sd2 K (orElse2 f g) fun x y H Q => r x y H Q ∨ r' x y H Q := by
  intro φ H S d e x y d' Q s r1 r2 hf k
  have hf : (match f d e S with | some x => some x | none => g d e S) = some d' := hf
  cases q : f d e S with
  | some z =>
    rw [q] at hf; cases hf
    exact .inl (h φ H S d e x y _ Q s r1 r2 q k)
  | none =>
    rw [q] at hf
    exact .inr (h' φ H S d e x y d' Q s r1 r2 hf k)
def orElsen (f g : List Dt → Sto → Option Dt) : List Dt → Sto → Option Dt := fun ds S => match f ds S with
  | some x => some x
  | none => g ds S
theorem Sdn.or {K : PySem.W.Frag} {f g : List Dt → Sto → Option Dt} {r r' : List V → Hp → VK → Prop} (h : Sdn K f r) (h' : Sdn K g r') : Sdn K (orElsen f g) fun xs H Q => r xs H Q ∨ r' xs H Q := by
  intro φ H S ds xs d' Q s r1 hf k
  have hf : (match f ds S with | some x => some x | none => g ds S) = some d' := hf
  cases q : f ds S with
  | some z =>
    rw [q] at hf; cases hf
    exact .inl (h φ H S ds xs _ Q s r1 q k)
  | none =>
    rw [q] at hf
    exact .inr (h' φ H S ds xs d' Q s r1 hf k)

/-! ### in -/
def Str.one (x : Str) : Option Nat := if x.cps.size = 1 then some (x.cps.getD 0 0) else none
theorem Str.one_of {x : Str} {c : Nat} (h : Str.one x = some c) : x = ⟨#[c]⟩ := by
  obtain ⟨h1, h2⟩ := ifSome h
  obtain ⟨⟨l⟩⟩ := x
  cases l with
  | nil => cases h1
  | cons a r =>
    cases r with
    | nil =>
      have e : a = c := h2
      rw [e]
    | cons b r => simp at h1
def inStr (neg : Bool) : Dt → Dt → Sto → Option Dt
  | .str x, .str z, _ => (Str.one x).map fun c => .bl (if neg then !decide (c ∈ z.cps.toList) else decide (c ∈ z.cps.toList))
  | _, _, _ => none
def inDic (neg : Bool) : Dt → Dt → Sto → Option Dt := fun d e S => match d.key, e.dict S with
  | some k, some (ks, xs) => some (.bl (if neg then !(look ks xs k).isSome else (look ks xs k).isSome))
  | _, _ => none
def Dt.flat : Dt → Option V
  | .non => some .non
  | .bl b => some (.bl b)
  | .int i => some (.int i)
  | .str x => some (.str x)
  | _ => none
def flats : List Dt → Option (List V)
  | [] => some []
  | x :: xs => match x.flat, flats xs with
    | some v, some vs => some (v :: vs)
    | _, _ => none
theorem Rep.flat {K φ H d v x} (r : Rep K φ H d v) (h : d.flat = some x) : v = x ∧ flatV v = true := by
  cases d <;> first
    | (cases h; obtain rfl : v = _ := r; exact ⟨rfl, rfl⟩)
    | cases h
theorem Reps.flats {K φ H} : ∀ {ds : List Dt} {vs xs : List V}, Reps K φ H ds vs → flats ds = some xs → vs = xs ∧ vs.all flatV = true
  | [], vs, xs, r, h => by
    obtain rfl : vs = [] := r
    cases h; exact ⟨rfl, rfl⟩
  | x :: ds, vs, xs, r, h => by
    obtain ⟨v, q, rfl, a, b⟩ := (show ∃ v r, vs = v :: r ∧ Rep K φ H x v ∧ Reps K φ H ds r from r)
    have h : (match x.flat, ML.flats ds with
      | some v, some vs => some (v :: vs)
      | _, _ => none) = some xs := h
    cases e1 : x.flat with
    | none => rw [e1] at h; cases h
    | some y =>
      cases e2 : ML.flats ds with
      | none => rw [e1, e2] at h; cases h
      | some ys =>
        rw [e1, e2] at h; cases h
        obtain ⟨rfl, f1⟩ := a.flat e1
        obtain ⟨rfl, f2⟩ := Reps.flats b e2
        exact ⟨rfl, by rw [List.all_cons, f1, f2]; rfl⟩
def inRow (neg : Bool) : Dt → Dt → Sto → Option Dt := fun d e S => match d.flat, (e.row S).bind flats with
  | some x, some xs => some (.bl (if neg then !inV x xs else inV x xs))
  | _, _ => none
def rInStr (neg : Bool) : R2 := fun x y H Q => ∃ (c : Nat) (z : Str), x = .str ⟨#[c]⟩ ∧ y = .str z ∧ Q (.bl (if neg then !decide (c ∈ z.cps.toList) else decide (c ∈ z.cps.toList))) H
def rInDic (neg : Bool) : R2 := fun x y H Q => ∃ a o, y = .ref a ∧ DGet H a x o ∧ Q (.bl (if neg then !o.isSome else o.isSome)) H
theorem sInStr {K : PySem.W.Frag} {neg : Bool} : Sd2 K (inStr neg) (rInStr neg) := by
  intro φ H S d e x y d' Q s r1 r2 hf k
  cases d <;> cases e <;> try (exact absurd (show (none : Option Dt) = some d' from hf) (fun z => nomatch z))
  rename_i u z
  obtain rfl : x = .str u := r1
  obtain rfl : y = .str z := r2
  have hf : (Str.one u).map (fun c => Dt.bl (if neg then !decide (c ∈ z.cps.toList) else decide (c ∈ z.cps.toList))) = some d' := hf
  cases q : Str.one u with
  | none => rw [q] at hf; cases hf
  | some c =>
    rw [q] at hf; cases hf
    exact ⟨c, z, by rw [Str.one_of q], rfl, k φ H _ (Ext.refl _ _) s rfl⟩
theorem sInDic {K : PySem.W.Frag} {neg : Bool} : Sd2 K (inDic neg) (rInDic neg) := by
  intro φ H S d e x y d' Q s r1 r2 hf k
  have hf : (match d.key, e.dict S with
    | some k, some (ks, xs) => some (Dt.bl (if neg then !(look ks xs k).isSome else (look ks xs k).isSome))
    | _, _ => none) = some d' := hf
  cases q1 : d.key with
  | none => rw [q1] at hf; cases hf
  | some j =>
    cases q2 : e.dict S with
    | none => rw [q1, q2] at hf; cases hf
    | some p =>
      obtain ⟨ks, xs⟩ := p
      rw [q1, q2] at hf; cases hf
      obtain ⟨a, kvs, rfl, he, z1, z2⟩ := Rep.dict s r2 q2
      obtain rfl := r1.key q1
      refine ⟨a, _, rfl, DGet.k he, ?_⟩
      have q := k φ H _ (Ext.refl _ _) s rfl
      rcases look_val j z1 z2 with ⟨l1, l2⟩ | ⟨d, v, l1, l2, _⟩
      · rw [l2]; rw [l1] at q; exact q
      · rw [l2]; rw [l1] at q; exact q
theorem sInRow {K : PySem.W.Frag} {neg : Bool} : Sd2 K (inRow neg) (rIn K neg) := by
  intro φ H S d e x y d' Q s r1 r2 hf k
  have hf : (match d.flat, (e.row S).bind flats with
    | some x, some xs => some (Dt.bl (if neg then !inV x xs else inV x xs))
    | _, _ => none) = some d' := hf
  cases q1 : d.flat with
  | none => rw [q1] at hf; cases hf
  | some u =>
    cases q2 : e.row S with
    | none => rw [q1, q2] at hf; cases hf
    | some ys =>
      rw [q1, q2] at hf
      have hf : (match flats ys with
        | some xs => some (Dt.bl (if neg then !inV u xs else inV u xs))
        | none => none) = some d' := by
        cases q3 : flats ys with
        | none => rw [show (some ys).bind flats = flats ys from rfl, q3] at hf; cases hf
        | some zs => rw [show (some ys).bind flats = flats ys from rfl, q3] at hf; exact hf
      cases q3 : flats ys with
      | none => rw [q3] at hf; cases hf
      | some zs =>
        rw [q3] at hf; cases hf
        obtain ⟨a, vs, rfl, hs, q⟩ := Rep.row s r2 q2
        obtain ⟨rfl, f1⟩ := r1.flat q1
        obtain ⟨rfl, f2⟩ := q.flats q3
        exact ⟨a, vs, rfl, hs, f1, f2, k φ H _ (Ext.refl _ _) s rfl⟩
section
variable {X : Cx}
theorem op_inStr : OpR X (compareOp .In) (rInStr false) := op_in_sign
theorem op_niStr : OpR X (compareOp .NotIn) (rInStr true) := op_notIn_sign
theorem op_inDic (hu : X.A.units + 1 < cLine) : OpR X (compareOp .In) (rInDic false) := by
  intro pins s σ H x y v u Q I rx ry h
  obtain ⟨a, o, rfl, g, q⟩ := h
  cases ry
  exact d_in hu I g rx fun s' I' => ⟨.bl _, H, I', rfl, q⟩
theorem op_niDic (hu : X.A.units + 1 < cLine) : OpR X (compareOp .NotIn) (rInDic true) := by
  intro pins s σ H x y v u Q I rx ry h
  obtain ⟨a, o, rfl, g, q⟩ := h
  cases ry
  exact d_notIn hu I g rx fun s' I' => ⟨.bl _, H, I', rfl, q⟩
end
abbrev cIn := orElse2 (inStr false) (orElse2 (inDic false) (inRow false))
abbrev cNi := orElse2 (inStr true) (orElse2 (inDic true) (inRow true))
theorem sIn {K : PySem.W.Frag} : Sd2 K cIn fun x y H Q => rInStr false x y H Q ∨ rInDic false x y H Q ∨ rIn K false x y H Q := sInStr.or (sInDic.or sInRow)
theorem sNi {K : PySem.W.Frag} : Sd2 K cNi fun x y H Q => rInStr true x y H Q ∨ rInDic true x y H Q ∨ rIn K true x y H Q := sInStr.or (sInDic.or sInRow)
theorem op_in3 {X : Cx} (hu : X.A.units + 1 < cLine) : OpR X (compareOp .In) fun x y H Q => rInStr false x y H Q ∨ rInDic false x y H Q ∨ rIn X.K false x y H Q := op_inStr.or ((op_inDic hu).or op_in_seq)
theorem op_ni3 {X : Cx} (hu : X.A.units + 1 < cLine) : OpR X (compareOp .NotIn) fun x y H Q => rInStr true x y H Q ∨ rInDic true x y H Q ∨ rIn X.K true x y H Q := op_niStr.or ((op_niDic hu).or op_notIn_seq)

/-! ### items -/
def gRow : Dt → Dt → Sto → Option Dt
  | d, .int i, S => (d.row S).bind fun xs => atI xs i
  | _, _, _ => none
def gStr : Dt → Dt → Sto → Option Dt
  | .str z, .int i, _ => if z.length ≤ cap then (atI z.cps.toList i).map fun c => .str ⟨#[c]⟩ else none
  | _, _, _ => none
def gDic : Dt → Dt → Sto → Option Dt := fun d e S => match e.key, d.dict S with
  | some k, some (ks, xs) => look ks xs k
  | _, _ => none
def rIxD : R2 := fun x y H Q => ∃ a v, x = .ref a ∧ DGet H a y (some v) ∧ Q v H
theorem ix_dict {X : Cx} (hu : X.A.units + 1 < cLine) : IxR X rIxD := by
  intro value slice pins s σ H x y v u Q I rx ry h hs
  obtain ⟨a, z, rfl, g, q⟩ := h
  cases rx
  exact tail_any (dict_typeIs I g) PySem.F.slot_dict_getitem.lookup (d_getItem hu I g ry fun w' s3 I3 rw' => ⟨z, H, I3, rw', q⟩) hs
theorem sgRow {K : PySem.W.Frag} : Sd2 K gRow fun x y H Q => rIxL K x y H Q ∨ rIxT K x y H Q := by
  intro φ H S d e x y d' Q s r1 r2 hf k
  cases e <;> try (exact absurd (show (none : Option Dt) = some d' from hf) (fun z => nomatch z))
  rename_i i
  obtain rfl : y = .int i := r2
  have hf : (d.row S).bind (fun xs => atI xs i) = some d' := hf
  cases q : d.row S with
  | none => rw [q] at hf; cases hf
  | some xs =>
    rw [q] at hf
    obtain ⟨a, vs, rfl, hs, z⟩ := Rep.row s r1 q
    obtain ⟨v, e1, e2⟩ := z.at_ (show atI xs i = some d' from hf)
    rcases hs with hs | hs
    · exact .inl ⟨a, vs, i, v, rfl, rfl, hs, e1, k φ H _ (Ext.refl _ _) s e2⟩
    · exact .inr ⟨a, vs, i, v, rfl, rfl, hs, e1, k φ H _ (Ext.refl _ _) s e2⟩
theorem sgStr {K : PySem.W.Frag} : Sd2 K gStr rIxS := by
  intro φ H S d e x y d' Q s r1 r2 hf k
  cases d <;> cases e <;> try (exact absurd (show (none : Option Dt) = some d' from hf) (fun z => nomatch z))
  rename_i z i
  obtain rfl : x = .str z := r1
  obtain rfl : y = .int i := r2
  have hf : (if z.length ≤ cap then (atI z.cps.toList i).map (fun c => Dt.str ⟨#[c]⟩) else none) = some d' := hf
  by_cases hl : z.length ≤ cap
  · rw [if_pos hl] at hf
    cases q : atI z.cps.toList i with
    | none => rw [q] at hf; cases hf
    | some c =>
      rw [q] at hf; cases hf
      exact ⟨z, i, c, rfl, rfl, cap_line hl, q, k φ H _ (Ext.refl _ _) s rfl⟩
  · rw [if_neg hl] at hf; cases hf
theorem sgDic {K : PySem.W.Frag} : Sd2 K gDic rIxD := by
  intro φ H S d e x y d' Q s r1 r2 hf k
  have hf : (match e.key, d.dict S with
    | some k, some (ks, xs) => look ks xs k
    | _, _ => none) = some d' := hf
  cases q1 : e.key with
  | none => rw [q1] at hf; cases hf
  | some j =>
    cases q2 : d.dict S with
    | none => rw [q1, q2] at hf; cases hf
    | some p =>
      obtain ⟨ks, xs⟩ := p
      rw [q1, q2] at hf
      have hf : look ks xs j = some d' := hf
      obtain ⟨a, kvs, rfl, he, z1, z2⟩ := Rep.dict s r1 q2
      obtain rfl := r2.key q1
      rcases look_val j z1 z2 with ⟨l1, l2⟩ | ⟨d, v, l1, l2, l3⟩
      · rw [l1] at hf; cases hf
      · rw [l1] at hf; cases hf
        exact ⟨a, v, rfl, by rw [← l2]; exact DGet.k he, k φ H _ (Ext.refl _ _) s l3⟩
abbrev gIx := orElse2 gRow (orElse2 gStr gDic)
theorem sIx {K : PySem.W.Frag} : Sd2 K gIx fun x y H Q => (rIxL K x y H Q ∨ rIxT K x y H Q) ∨ rIxS x y H Q ∨ rIxD x y H Q := sgRow.or (sgStr.or sgDic)
section
variable {cl : Cl} {W : WX} {X : Cx}
theorem em_ix {a b : Expr} {pos : Pos} {ma mb : Nv → Mo Dt} (hu : X.A.units + 1 < cLine) (ha : PEm cl W X a ma) (hb : PEm cl W X b mb) (hs : PlainIx b := by exact fun _ _ => rfl) : PEm cl W X (.Subscript a b pos) (m2 gIx ma mb) :=
  PE_imp (pe_ix ((ix_list.or ix_tup).or (ix_str.or (ix_dict hu))) ha hb hs) fun _ _ _ h => rd2 sIx h

/-! ### slices -/
def tO (K : PySem.W.Frag) (cl : Cl) (W : WX) (m : Nv → Mo (Option Int)) : TO := fun σ H Q => ∃ φ ρ S, RepE K φ H ρ σ ∧ RepS K φ S H ∧ post K cl (fun c d H' => W c d σ H') φ H (m ρ S) fun o _ φ' H' => Q o H'
def POm (cl : Cl) (W : WX) (X : Cx) (e : Option Expr) (m : Nv → Mo (Option Int)) : Prop := PO X e (tO X.K cl W m)
def mNoP : Nv → Mo (Option Int) := fun _ => Mo.ret none
def Dt.asInt : Dt → Option Int
  | .int i => some i
  | _ => none
theorem Rep.asInt {K φ H d v i} (r : Rep K φ H d v) (h : d.asInt = some i) : v = .int i := by
  cases d <;> first
    | (cases h; exact r)
    | cases h
def mP (m : Nv → Mo Dt) : Nv → Mo (Option Int) := fun ρ => m ρ >>= fun d => Mo.rd fun _ => d.asInt.map some
theorem om_none : POm cl W X none mNoP := ⟨fun pins s σ H Q I h => by
  obtain ⟨φ, ρ, S, e, s', h⟩ := h
  exact po_none.run pins s σ H Q I (h.ok s')⟩
theorem om_some {e : Expr} {m : Nv → Mo Dt} (h : PEm cl W X e m) : POm cl W X (some e) (mP m) := ⟨fun pins s σ H Q I hq => by
  refine (po_some h).run pins s σ H Q I ?_
  obtain ⟨φ, ρ, S, e, s', hq⟩ := hq
  refine (tE.b1 (f := fun d _ => Mo.rd fun _ => d.asInt.map some) e s' hq).imp fun x H1 ⟨φ1, S1, d, x1, e1, s1, r1, p⟩ => ?_
  obtain ⟨o, ho, q⟩ := p.rd
  cases z : d.asInt with
  | none => rw [z] at ho; cases ho
  | some i =>
    rw [z] at ho; cases ho
    exact ⟨i, r1.asInt z, q φ1 H1 (Ext.refl _ _) s1⟩⟩
theorem tO.b1 {K : PySem.W.Frag} {α : Type} {m : Nv → Mo (Option Int)} {f : Option Int → Nv → Mo α} {k : α → Sto → Fi → Hp → Prop} {φ ρ S σ H} (e : RepE K φ H ρ σ) (s : RepS K φ S H) (h : post K cl (fun c d H' => W c d σ H') φ H ((m ρ >>= fun d => f d ρ) S) k) :
    tO K cl W m σ H fun o H1 => ∃ φ1 S1, Ext φ H φ1 H1 ∧ RepE K φ1 H1 ρ σ ∧ RepS K φ1 S1 H1 ∧ post K cl (fun c d H' => W c d σ H') φ1 H1 (f o ρ S1) k :=
  ⟨φ, ρ, S, e, s, h.bnd.imp fun o S' φ' H' x s' q => ⟨φ', S', x, e.mono x, s', q⟩⟩
theorem tO.imp {K : PySem.W.Frag} {m : Nv → Mo (Option Int)} {σ H} {Q Q' : Option Int → Hp → Prop} (h : tO K cl W m σ H Q) (f : ∀ v H', Q v H' → Q' v H') : tO K cl W m σ H Q' := by
  obtain ⟨φ, ρ, S, e, s, h⟩ := h
  exact ⟨φ, ρ, S, e, s, h.imp fun a S' φ' H' _ _ q => f a H' q⟩
def cutL {α : Type} (xs : List α) (lo hi : Option Int) : List α := (xs.drop (HT.sIx xs.length 0 lo)).take (HT.sIx xs.length xs.length hi - HT.sIx xs.length 0 lo)
def fSl (d : Dt) (lo hi : Option Int) (S : Sto) : Option Dt := match d with
  | .tup xs => some (.tup (cutL xs lo hi))
  | .str z => if z.length ≤ cap then some (.str (cutS z lo hi)) else none
  | .lst xs => some (.lst (cutL xs lo hi))
  | .obj n => match S[n]? with
    | some (.lst xs) => some (.lst (cutL xs lo hi))
    | _ => none
  | _ => none
def mSl (m : Nv → Mo Dt) (ml mh : Nv → Mo (Option Int)) : Nv → Mo Dt := fun ρ => m ρ >>= fun d => ml ρ >>= fun lo => mh ρ >>= fun hi => Mo.rd (fSl d lo hi)
theorem Reps.cut {K φ H} {ds : List Dt} {vs : List V} (h : Reps K φ H ds vs) (lo hi : Option Int) : Reps K φ H (cutL ds lo hi) (cutV vs lo hi) := by
  unfold cutL cutV
  rw [h.length]
  exact Reps.tak _ (Reps.drp _ h)
theorem em_slice {e : Expr} {lo hi : Option Expr} {p2 pos : Pos} {m : Nv → Mo Dt} {ml mh : Nv → Mo (Option Int)} (he : PEm cl W X e m) (hl : POm cl W X lo ml) (hh : POm cl W X hi mh) : PEm cl W X (.Subscript e (.Slice lo hi none p2) pos) (mSl m ml mh) := by
  refine PE_imp (pe_slice (sl_list.or (sl_tupA.or sl_str)) he hl hh) fun σ H Q h => ?_
  obtain ⟨φ, ρ, S, e, s, h⟩ := h
  refine (tE.b1 (f := fun d ρ => ml ρ >>= fun lo => mh ρ >>= fun hi => Mo.rd (fSl d lo hi)) e s h).imp fun x H1 ⟨φ1, S1, d, x1, e1, s1, r1, p⟩ => ?_
  refine (tO.b1 (f := fun lo ρ => mh ρ >>= fun hi => Mo.rd (fSl d lo hi)) e1 s1 p).imp fun lo H2 ⟨φ2, S2, x2, e2, s2, p2⟩ => ?_
  refine (tO.b1 (f := fun hi _ => Mo.rd (fSl d lo hi)) e2 s2 p2).imp fun hi H3 ⟨φ3, S3, x3, e3, s3, p3⟩ => ?_
  obtain ⟨d', hd, q⟩ := p3.rd
  have r3 := Rep.mono x3 _ _ (Rep.mono x2 _ _ r1)
  cases d with
  | str z =>
    obtain ⟨hz, rfl⟩ := ifSome hd
    obtain rfl : x = .str z := r3
    exact .inr (.inr ⟨z, rfl, cap_line hz, q φ3 H3 (Ext.refl _ _) s3 _ rfl⟩)
  | tup xs =>
    cases hd
    obtain ⟨a, vs, rfl, t, z⟩ := r3
    refine .inr (.inl ⟨a, vs, rfl, t.seq, fun w => ?_, fun w p np => q φ3 _ (Ext.out s3 np) (s3.out np) _ (Rep.newTup s3 np (z.cut lo hi))⟩)
    have e : cutL xs lo hi = xs := by
      unfold cutL
      rw [z.length, w.1, w.2]
      simp [z.length.symm]
    rw [e] at q
    exact q φ3 H3 (Ext.refl _ _) s3 _ ⟨a, vs, rfl, t, z⟩
  | lst xs =>
    cases hd
    obtain ⟨a, vs, rfl, t, z⟩ := r3
    exact .inl ⟨a, vs, rfl, t.seq, fun p np => q φ3 _ (Ext.out s3 np) (s3.out np) _ (Rep.newLst s3 np (z.cut lo hi))⟩
  | obj n =>
    obtain ⟨a, rfl, ha⟩ := r3
    have hd : (match S3[n]? with | some (.lst xs) => some (Dt.lst (cutL xs lo hi)) | _ => none) = some d' := hd
    cases w : S3[n]? with
    | none => rw [w] at hd; cases hd
    | some o =>
      rw [w] at hd
      cases o with
      | dK ks xs => cases hd
      | lst xs =>
        cases hd
        obtain ⟨vs, e1, e2⟩ := s3.ob n a _ ha w
        exact .inl ⟨a, vs, rfl, .inl (.inl e1), fun p np => q φ3 _ (Ext.out s3 np) (s3.out np) _ (Rep.newLst s3 np (e2.cut lo hi))⟩
  | _ => exact absurd (show (none : Option Dt) = some d' from hd) (fun z => nomatch z)
end
end ML

set_option Elab.async false
set_option linter.all false
set_option maxRecDepth 100000
set_option maxHeartbeats 1000000
/-! ML: calls of what is built in. -/
namespace ML
open PySem PySem.Spec L2
open PyProof.Rows hiding St

section
variable {cl : Cl} {W : WX} {X : Cx} {x : Str} {p pos : Pos} {e : Expr} {es : List Expr} {ms : Nv → Mo (List Dt)} {id T : String} {r : List V → Hp → VK → Prop} {f : List Dt → Sto → Option Dt}
theorem em_callB (hc : CallR X (.builtin id) r) (hs : Sdn X.K f r) (hm : X.mg x = none) (hv : bootBuiltins x = some (.builtin id)) (ha : PAm cl W X (e :: es) ms) (hg : Gl X x := by rfl) (hn : x ≠ "__name__" := by decide) (hdb : (x == ("__debug__" : Str)) = false := by decide)
    (he : starEach (e :: es) X.env = (false, eval e X.env) :: starEach es X.env := by rfl) (hpl : (backTo pos (starEach es X.env)).any (·.1) = false := by rfl) : PEm cl W X (.Call (.Name x p) (e :: es) [] pos) (mn f ms) :=
  PE_imp (pe_callB hc hg hm hv ha hn hdb he hpl) fun _ _ _ h => rdn hs h
theorem em_callT (hc : CallR X (.type T) r) (hs : Sdn X.K f r) (hm : X.mg x = none) (hv : bootBuiltins x = some (.type T)) (ha : PAm cl W X (e :: es) ms) (hg : Gl X x := by rfl) (hn : x ≠ "__name__" := by decide) (hdb : (x == ("__debug__" : Str)) = false := by decide)
    (he : starEach (e :: es) X.env = (false, eval e X.env) :: starEach es X.env := by rfl) (hpl : (backTo pos (starEach es X.env)).any (·.1) = false := by rfl) : PEm cl W X (.Call (.Name x p) (e :: es) [] pos) (mn f ms) :=
  PE_imp (pe_callTy hc hg hm hv ha hn hdb he hpl) fun _ _ _ h => rdn hs h
end
theorem reps1 {K φ H d vs} (h : Reps K φ H [d] vs) : ∃ v, vs = [v] ∧ Rep K φ H d v := by
  obtain ⟨v, r, e, a, b⟩ := h
  obtain rfl : r = [] := b
  exact ⟨v, e, a⟩
theorem reps2 {K φ H d e vs} (h : Reps K φ H [d, e] vs) : ∃ v u, vs = [v, u] ∧ Rep K φ H d v ∧ Rep K φ H e u := by
  obtain ⟨v, r, z, a, b⟩ := h
  obtain ⟨u, rfl, c⟩ := reps1 b
  exact ⟨v, u, z, a, c⟩
theorem Rep.row2 {K φ S H d v xs} (s : RepS K φ S H) (r : Rep K φ H d v) (h : d.row S = some xs) : ∃ a vs, v = .ref a ∧ (SqL K H a vs ∨ (SqT K H a vs ∧ d = .tup xs)) ∧ Reps K φ H xs vs := by
  cases d with
  | tup ys =>
    cases h
    obtain ⟨a, vs, rfl, e, q⟩ := r
    exact ⟨a, vs, rfl, .inr ⟨e.seq, rfl⟩, q⟩
  | lst ys =>
    cases h
    obtain ⟨a, vs, rfl, e, q⟩ := r
    exact ⟨a, vs, rfl, .inl e.seq, q⟩
  | obj n =>
    obtain ⟨a, rfl, e⟩ := r
    have h : (match S[n]? with | some (.lst xs) => some xs | _ => none) = some xs := h
    cases q : S[n]? with
    | none => rw [q] at h; cases h
    | some o =>
      rw [q] at h
      cases o with
      | lst ys =>
        cases h
        obtain ⟨vs, e1, e2⟩ := s.ob n a _ e q
        exact ⟨a, vs, rfl, .inl (.inl (.inl e1)), e2⟩
      | dK ks' xs' => cases h
  | scr ns =>
    cases h
    obtain ⟨a, rfl, e⟩ := r
    exact ⟨a, _, rfl, .inl e.seq, Reps.of_ints ns⟩
  | _ => exact absurd (show (none : Option (List Dt)) = some xs from h) (fun z => nomatch z)
/-! ### len -/
def lenO (d : Dt) (S : Sto) : Option Dt := match d with
  | .str z => if z.length ≤ cap then some (.int z.length) else none
  | _ => (d.dict S).map fun p => .int p.1.length
def fLen : List Dt → Sto → Option Dt
  | [d], S => match d.row S with
    | some xs => some (.int xs.length)
    | none => lenO d S
  | _, _ => none
def rLen (K : PySem.W.Frag) : List V → Hp → VK → Prop := fun xs H Q => (∃ x n, xs = [x] ∧ LenV K x H n ∧ Q (.int n) H) ∨ ∃ a kvs, xs = [V.ref a] ∧ H a = some (.dK kvs) ∧ Q (.int kvs.length) H
theorem c_len {X : Cx} : CallR X (.builtin "len") (rLen X.K) := call_len.or call_lenD
theorem sLen {K : PySem.W.Frag} : Sdn K fLen (rLen K) := by
  intro φ H S ds vs d' Q s r hf k
  match ds, hf, r with
  | [d], hf, r =>
    obtain ⟨v, rfl, a⟩ := reps1 r
    have hf : (match d.row S with
      | some xs => some (Dt.int xs.length)
      | none => lenO d S) = some d' := hf
    cases q : d.row S with
    | some xs =>
      rw [q] at hf; cases hf
      obtain ⟨b, us, rfl, hs, z⟩ := Rep.row s a q
      refine .inl ⟨_, us.length, rfl, ?_, by rw [← z.length]; exact k φ H _ (Ext.refl _ _) s rfl⟩
      rcases hs with hs | hs
      · exact .inl ⟨us, hs, rfl⟩
      · exact .inr ⟨us, hs, rfl⟩
    | none =>
      rw [q] at hf
      cases w : d.dict S with
      | some p =>
        obtain ⟨ks, xs⟩ := p
        have hf : some (Dt.int ks.length) = some d' := by
          have e : lenO d S = (d.dict S).map fun p => .int p.1.length := by
            cases d <;> first
              | rfl
              | cases w
          have hf : lenO d S = some d' := hf
          rw [e, w] at hf
          exact hf
        cases hf
        obtain ⟨b, kvs, rfl, e1, e2, e3⟩ := Rep.dict s a w
        refine .inr ⟨b, kvs, rfl, e1, ?_⟩
        have : kvs.length = ks.length := by rw [← e2, List.length_map]
        rw [this]
        exact k φ H _ (Ext.refl _ _) s rfl
      | none =>
        have hf : lenO d S = some d' := hf
        cases d with
        | str z =>
          obtain ⟨hz, rfl⟩ := ifSome hf
          obtain rfl : v = .str z := a
          exact .inl ⟨_, z.length, rfl, ⟨cap_line hz, rfl⟩, k φ H _ (Ext.refl _ _) s rfl⟩
        | _ =>
          unfold lenO at hf
          rw [w] at hf
          cases hf
  | [], hf, r => cases hf
  | _ :: _ :: _, hf, r => cases hf
/-! ### sum of ints -/
def allI : List Dt → Option (List Int)
  | [] => some []
  | .int i :: r => (allI r).map fun is => i :: is
  | _ :: _ => none
theorem allI_of : ∀ {ds : List Dt} {ns : List Int}, allI ds = some ns → ds = ns.map Dt.int
  | [], ns, h => by cases h; rfl
  | d :: r, ns, h => by
    cases d <;> try (exact absurd (show (none : Option (List Int)) = some ns from h) (fun z => nomatch z))
    rename_i i
    have h : (allI r).map (fun is => i :: is) = some ns := h
    cases q : allI r with
    | none => rw [q] at h; cases h
    | some is =>
      rw [q] at h; cases h
      rw [allI_of q]; rfl
theorem allI_map (ns : List Int) : allI (ns.map Dt.int) = some ns := by
  induction ns with
  | nil => rfl
  | cons n r ih =>
    show (allI (r.map Dt.int)).map (fun is => n :: is) = _
    rw [ih]; rfl
def fSum : List Dt → Sto → Option Dt
  | [d], S => ((d.row S).bind allI).map fun ns => .int ns.sum
  | _, _ => none
def rSumT (K : PySem.W.Frag) : List V → Hp → VK → Prop := fun vs H Q => ∃ (a : Addr) (ns : List Int), vs = [V.ref a] ∧ SqT K H a (ns.map V.int) ∧ Q (.int ns.sum) H
theorem sum_tupR {X : Cx} (hc : X.calm = true) : CallR X (.builtin "sum") (rSumT X.K) := by
  intro pins s σ H vs us Q I r h
  obtain ⟨a, ns, rfl, hs, q⟩ := h
  obtain ⟨its, rv, hl, _⟩ := I.tuple hs
  rw [Vals.ref1 r]
  have hi := rv.ints
  obtain ⟨xs, hx⟩ := hi.allInts.items
  have hn : numsOf its.toArray.toList = ns := by rw [show its.toArray.toList = its from rfl, hi.numsOf]
  rw [hx] at hl hn
  rw [nums_intItems] at hn
  refine PySem.W.ktm_sumG (I.ok.hd hc) (show s.heap.IsTuple a (intItems xs) from hl) fun h' tk t' hk => ?_
  refine ⟨.int ns.sum, H, I.kept hk, ⟨t', ?_⟩, q⟩
  rw [preSum_eq, List.take_of_length_le (by simp), hn]
theorem sSum {K : PySem.W.Frag} : Sdn K fSum fun xs H Q => rSum K xs H Q ∨ rSumT K xs H Q := by
  intro φ H S ds vs d' Q s r hf k
  match ds, hf, r with
  | [d], hf, r =>
    obtain ⟨v, rfl, a⟩ := reps1 r
    have hf : ((d.row S).bind allI).map (fun ns => Dt.int ns.sum) = some d' := hf
    cases q : d.row S with
    | none => rw [q] at hf; cases hf
    | some xs =>
      rw [q] at hf
      have hf : (allI xs).map (fun ns => Dt.int ns.sum) = some d' := hf
      cases w : allI xs with
      | none => rw [w] at hf; cases hf
      | some ns =>
        rw [w] at hf; cases hf
        obtain ⟨b, us, rfl, hs, z⟩ := Rep.row s a q
        rw [allI_of w] at z
        rw [z.ints] at hs
        have q2 := k φ H _ (Ext.refl _ _) s rfl
        rcases hs with hs | hs
        · exact .inl ⟨b, ns, rfl, hs, q2⟩
        · exact .inr ⟨b, ns, rfl, hs, q2⟩
  | [], hf, r => cases hf
  | _ :: _ :: _, hf, r => cases hf
theorem c_sum {X : Cx} (hc : X.calm = true) : CallR X (.builtin "sum") fun xs H Q => rSum X.K xs H Q ∨ rSumT X.K xs H Q := (cr_sum hc).or (sum_tupR hc)
/-! ### all, any of a list of truths -/
def allB : List Dt → Option (List Bool)
  | [] => some []
  | .bl i :: r => (allB r).map fun is => i :: is
  | _ :: _ => none
theorem allB_of : ∀ {ds : List Dt} {ns : List Bool}, allB ds = some ns → ds = ns.map Dt.bl
  | [], ns, h => by cases h; rfl
  | d :: r, ns, h => by
    cases d <;> try (exact absurd (show (none : Option (List Bool)) = some ns from h) (fun z => nomatch z))
    rename_i i
    have h : (allB r).map (fun is => i :: is) = some ns := h
    cases q : allB r with
    | none => rw [q] at h; cases h
    | some is =>
      rw [q] at h; cases h
      rw [allB_of q]; rfl
theorem allB_map (ns : List Bool) : allB (ns.map Dt.bl) = some ns := by
  induction ns with
  | nil => rfl
  | cons n r ih =>
    show (allB (r.map Dt.bl)).map (fun is => n :: is) = _
    rw [ih]; rfl
def fBls (g : List Bool → Bool) : List Dt → Sto → Option Dt
  | [.lst xs], _ => (allB xs).map fun bs => .bl (g bs)
  | _, _ => none
theorem sBls {K : PySem.W.Frag} {g : List Bool → Bool} : Sdn K (fBls g) fun vs H Q => ∃ (a : Addr) (bs : List Bool), vs = [V.ref a] ∧ SqL K H a (bs.map V.bl) ∧ Q (.bl (g bs)) H := by
  intro φ H S ds vs d' Q s r hf k
  match ds, hf, r with
  | [d], hf, r =>
    obtain ⟨v, rfl, a⟩ := reps1 r
    cases d <;> try (exact absurd (show (none : Option Dt) = some d' from hf) (fun z => nomatch z))
    rename_i xs
    have hf : (allB xs).map (fun bs => Dt.bl (g bs)) = some d' := hf
    cases w : allB xs with
    | none => rw [w] at hf; cases hf
    | some bs =>
      rw [w] at hf; cases hf
      obtain ⟨b, us, rfl, hs, z⟩ := a
      rw [allB_of w] at z
      rw [z.bls] at hs
      exact ⟨b, bs, rfl, hs.seq, k φ H _ (Ext.refl _ _) s rfl⟩
  | [], hf, r => cases hf
  | _ :: _ :: _, hf, r =>
    rename_i d1 d2 dr
    cases d1 <;> exact absurd (show (none : Option Dt) = some d' from hf) (fun z => nomatch z)
abbrev fAll := fBls fun bs => bs.all id
abbrev fAny := fBls fun bs => bs.any id
theorem sAll {K : PySem.W.Frag} : Sdn K fAll (rAll K) := sBls
theorem sAny {K : PySem.W.Frag} : Sdn K fAny (rAny K) := sBls
/-! ### max, min of two; int; tuple, list; divmod; isinstance -/
def f2I (g : Int → Int → Int) : List Dt → Sto → Option Dt
  | [.int i, .int j], _ => some (.int (g i j))
  | _, _ => none
theorem f2I_of {g : Int → Int → Int} {ds : List Dt} {S : Sto} {d' : Dt} (h : f2I g ds S = some d') : ∃ i j, ds = [.int i, .int j] ∧ d' = .int (g i j) := by
  match ds, h with
  | [.int i, .int j], h => cases h; exact ⟨i, j, rfl, rfl⟩
theorem s2I {K : PySem.W.Frag} {g : Int → Int → Int} : Sdn K (f2I g) fun xs H Q => ∃ i j, xs = [.int i, .int j] ∧ Q (.int (g i j)) H := by
  intro φ H S ds vs d' Q s r hf k
  obtain ⟨i, j, rfl, rfl⟩ := f2I_of hf
  obtain ⟨v, u, rfl, a, b⟩ := reps2 r
  obtain rfl : v = .int i := a
  obtain rfl : u = .int j := b
  exact ⟨i, j, rfl, k φ H _ (Ext.refl _ _) s rfl⟩
abbrev fMax := f2I fun i j => if j > i then j else i
abbrev fMin := f2I fun i j => if j < i then j else i
def fInt : List Dt → Sto → Option Dt
  | [.int i], _ => some (.int i)
  | _, _ => none
theorem fInt_of {ds : List Dt} {S : Sto} {d' : Dt} (h : fInt ds S = some d') : ∃ i, ds = [.int i] ∧ d' = .int i := by
  match ds, h with
  | [.int i], h => cases h; exact ⟨i, rfl, rfl⟩
theorem sInt1 {K : PySem.W.Frag} : Sdn K fInt fun xs H Q => (∃ i, xs = [.int i] ∧ Q (.int i) H) ∨ ∃ k, xs = [.bl k] ∧ Q (.int (if k then 1 else 0)) H := by
  intro φ H S ds vs d' Q s r hf k
  obtain ⟨i, rfl, rfl⟩ := fInt_of hf
  obtain ⟨v, rfl, a⟩ := reps1 r
  obtain rfl : v = .int i := a
  exact .inl ⟨i, rfl, k φ H _ (Ext.refl _ _) s rfl⟩
def fTpl : List Dt → Sto → Option Dt
  | [d], S => (d.row S).map .tup
  | _, _ => none
theorem fTpl_of {ds : List Dt} {S : Sto} {d' : Dt} (h : fTpl ds S = some d') : ∃ d xs, ds = [d] ∧ d.row S = some xs ∧ d' = .tup xs := by
  match ds, h with
  | [d], h =>
    have h : (d.row S).map Dt.tup = some d' := h
    cases q : d.row S with
    | none => rw [q] at h; cases h
    | some xs => rw [q] at h; cases h; exact ⟨d, xs, rfl, q, rfl⟩
theorem sTpl {K : PySem.W.Frag} : Sdn K fTpl fun xs H Q => ∃ p ys, xs = [.ref p] ∧ ((SqL K H p ys ∧ ∀ l, H l = none → Q (.ref l) (upd H l (.tup ys))) ∨ (SqT K H p ys ∧ Q (.ref p) H)) := by
  intro φ H S ds vs d' Q s r hf k
  obtain ⟨d, xs, rfl, q, rfl⟩ := fTpl_of hf
  obtain ⟨v, rfl, a⟩ := reps1 r
  obtain ⟨b, us, rfl, hs, z⟩ := Rep.row2 s a q
  rcases hs with hs | ⟨hs, rfl⟩
  · exact ⟨b, us, rfl, .inl ⟨hs, fun l n => k φ _ _ (Ext.out s n) (s.out n) (Rep.newTup s n z)⟩⟩
  · exact ⟨b, us, rfl, .inr ⟨hs, k φ H _ (Ext.refl _ _) s a⟩⟩
def fLs : List Dt → Sto → Option Dt
  | [d], S => (d.row S).map .lst
  | _, _ => none
theorem fLs_of {ds : List Dt} {S : Sto} {d' : Dt} (h : fLs ds S = some d') : ∃ d xs, ds = [d] ∧ d.row S = some xs ∧ d' = .lst xs := by
  match ds, h with
  | [d], h =>
    have h : (d.row S).map Dt.lst = some d' := h
    cases q : d.row S with
    | none => rw [q] at h; cases h
    | some xs => rw [q] at h; cases h; exact ⟨d, xs, rfl, q, rfl⟩
theorem sLs {K : PySem.W.Frag} : Sdn K fLs fun xs H Q => ∃ p ys, xs = [.ref p] ∧ (SqL K H p ys ∨ SqT K H p ys) ∧ ∀ l, H l = none → Q (.ref l) (upd H l (.lst ys)) := by
  intro φ H S ds vs d' Q s r hf k
  obtain ⟨d, xs, rfl, q, rfl⟩ := fLs_of hf
  obtain ⟨v, rfl, a⟩ := reps1 r
  obtain ⟨b, us, rfl, hs, z⟩ := Rep.row s a q
  exact ⟨b, us, rfl, hs, fun l n => k φ _ _ (Ext.out s n) (s.out n) (Rep.newLst s n z)⟩
def fDm : List Dt → Sto → Option Dt
  | [.int i, .int j], _ => if 0 < j ∧ j < 1073741824 then some (.tup [.int (i / j), .int (i % j)]) else none
  | _, _ => none
theorem fDm_of {ds : List Dt} {S : Sto} {d' : Dt} (h : fDm ds S = some d') : ∃ i j, ds = [.int i, .int j] ∧ CDiv i j ∧ d' = .tup [.int (i / j), .int (i % j)] := by
  match ds, h with
  | [.int i, .int j], h =>
    obtain ⟨h1, h2⟩ := ifSome h
    exact ⟨i, j, rfl, h1, h2.symm⟩
theorem sDm {K : PySem.W.Frag} : Sdn K fDm fun xs H Q => ∃ i j, xs = [.int i, .int j] ∧ CDiv i j ∧ ∀ p, H p = none → Q (.ref p) (upd H p (.tup [.int (i / j), .int (i % j)])) := by
  intro φ H S ds vs d' Q s r hf k
  obtain ⟨i, j, rfl, hc, rfl⟩ := fDm_of hf
  obtain ⟨v, u, rfl, a, b⟩ := reps2 r
  obtain rfl : v = .int i := a
  obtain rfl : u = .int j := b
  exact ⟨i, j, rfl, hc, fun p n => k φ _ _ (Ext.out s n) (s.out n) (Rep.newTup s n ⟨_, _, rfl, rfl, _, _, rfl, rfl, rfl⟩)⟩
/-! ### isinstance of a built-in class -/
def Dt.tyn (d : Dt) (S : Sto) : Option String := match d with
  | .non => some "NoneType"
  | .bl _ => some "bool"
  | .int _ => some "int"
  | .str _ => some "str"
  | .tup _ => some "tuple"
  | .lst _ => some "list"
  | .dct _ _ => some "dict"
  | .obj n => match S[n]? with
    | some (.lst _) => some "list"
    | some (.dK _ _) => some "dict"
    | none => none
  | _ => none
theorem Rep.tyn {K φ S H d v t} (s : RepS K φ S H) (r : Rep K φ H d v) (h : d.tyn S = some t) : TyX K H v (.type t) := by
  cases d with
  | non => cases h; obtain rfl : v = _ := r; exact .base .non
  | bl b => cases h; obtain rfl : v = .bl b := r; exact .base (.bl b)
  | int b => cases h; obtain rfl : v = .int b := r; exact .base (.int b)
  | str b => cases h; obtain rfl : v = .str b := r; exact .base (.str b)
  | tup xs =>
    cases h
    obtain ⟨a, vs, rfl, e, _⟩ := r
    rcases e with ⟨_, e | ⟨o, e⟩⟩ | ⟨o, its, n, e, c, _⟩
    · exact .base (.tup e)
    · exact .fTuple e
    · exact .kTuple e c
  | lst xs =>
    cases h
    obtain ⟨a, vs, rfl, e, _⟩ := r
    exact .base (.lst e.2)
  | dct ks xs =>
    cases h
    obtain ⟨a, kvs, rfl, _, e, _⟩ := r
    exact .base (.dK e)
  | obj n =>
    obtain ⟨a, rfl, e⟩ := r
    have h : (match S[n]? with | some (.lst _) => some "list" | some (.dK _ _) => some "dict" | none => none) = some t := h
    cases q : S[n]? with
    | none => rw [q] at h; cases h
    | some o =>
      rw [q] at h
      cases o with
      | lst ys =>
        cases h
        obtain ⟨vs, e1, e2⟩ := s.ob n a _ e q
        exact .base (.lst e1)
      | dK ks xs =>
        cases h
        obtain ⟨vs, e1, _, _⟩ := s.ob n a _ e q
        exact .base (.dK e1)
  | _ => exact absurd (show (none : Option String) = some t from h) (fun z => nomatch z)
def fIsi : List Dt → Sto → Option Dt
  | [d, .raw (.ty c)], S => ((d.tyn S).bind fun t => kitB t c).map .bl
  | _, _ => none
theorem fIsi_of {ds : List Dt} {S : Sto} {d' : Dt} (h : fIsi ds S = some d') : ∃ d c t b, ds = [d, .raw (.ty c)] ∧ d.tyn S = some t ∧ kitB t c = some b ∧ d' = .bl b := by
  match ds, h with
  | [d, .raw (.ty c)], h =>
    have h : ((d.tyn S).bind fun t => kitB t c).map Dt.bl = some d' := h
    cases q : d.tyn S with
    | none => rw [q] at h; cases h
    | some t =>
      rw [q] at h
      have h : (kitB t c).map Dt.bl = some d' := h
      cases w : kitB t c with
      | none => rw [w] at h; cases h
      | some b => rw [w] at h; cases h; exact ⟨d, c, t, b, rfl, q, w, rfl⟩
theorem sIsi {K : PySem.W.Frag} : Sdn K fIsi (rIsi K) := by
  intro φ H S ds vs d' Q s r hf k
  obtain ⟨d, c, t, b, rfl, h1, h2, rfl⟩ := fIsi_of hf
  obtain ⟨v, u, rfl, a, z⟩ := reps2 r
  obtain rfl : u = .ty c := z
  exact ⟨v, .ty c, .type t, .type c, b, rfl, .ty c, Rep.tyn s a h1, kit_ty h2, k φ H _ (Ext.refl _ _) s rfl⟩
section
variable {cl : Cl} {W : WX} {X : Cx}
/-- a built-in class as a value -/
theorem em_ty {x : Str} {c : String} {pos : Pos} (hm : X.mg x = none) (hv : bootBuiltins x = some (.type c)) (hg : Gl X x := by rfl) (hn : x ≠ "__name__" := by decide) (hd : (x == ("__debug__" : Str)) = false := by decide) : PEm cl W X (.Name x pos) (mC (.raw (.ty c))) :=
  em_const (pe_bltn hg hm hv (show RelV (.ty c) (.type c) from rfl) hn hd) fun _ _ _ => rfl
end
/-! ### repr -/
def fRep : List Dt → Sto → Option Dt
  | [d], _ => match d.py with
    | some p => if p.showable = true ∧ p.hasDict = false ∧ p.depth ≤ 20 ∧ p.shown.length ≤ cap then some (.str p.shown) else none
    | none => none
  | _, _ => none
theorem fRep_of {ds : List Dt} {S : Sto} {d' : Dt} (h : fRep ds S = some d') : ∃ d p, ds = [d] ∧ d.py = some p ∧ (p.showable = true ∧ p.hasDict = false ∧ p.depth ≤ 20 ∧ p.shown.length ≤ cap) ∧ d' = .str p.shown := by
  match ds, h with
  | [d], h =>
    have h : (match d.py with
      | some p => if p.showable = true ∧ p.hasDict = false ∧ p.depth ≤ 20 ∧ p.shown.length ≤ cap then some (Dt.str p.shown) else none
      | none => none) = some d' := h
    cases q : d.py with
    | none => rw [q] at h; cases h
    | some p =>
      rw [q] at h
      obtain ⟨h1, h2⟩ := ifSome h
      exact ⟨d, p, rfl, q, h1, h2.symm⟩
def rRepr (K : PySem.W.Frag) : List V → Hp → VK → Prop := fun xs H Q => ∃ v p, xs = [v] ∧ Dp K H v p ∧ (p.showable = true ∧ p.hasDict = false ∧ p.depth ≤ 20 ∧ p.shown.length ≤ sizeLine) ∧ Q (.str p.shown) H
theorem c_repr {X : Cx} (hg : X.A.guards = some []) (hu : X.A.units + 64 < cLine) : CallR X (.builtin "repr") (rRepr X.K) := by
  intro pins s σ H xs us Q I r h
  obtain ⟨v, p, rfl, hd, ⟨h1, h2, h3, h4⟩, q⟩ := h
  obtain ⟨u, rfl, ru⟩ := vals1 r
  have fin : ∀ t, EP X pins σ Q (.str p.shown t) { s with toks := s.toks + 1 } := fun t => ⟨.str p.shown, H, I.tok _, ⟨_, rfl⟩, q⟩
  have big : ∀ (a : Addr) (as : List Addr), u = .ref a → Reads s.heap u p as → wpAny (model X.prog X.w) X.A (call (.builtin "repr") [u]) (EP X pins σ Q) X.xe s := fun a as e rd => by
    subst e
    refine repr_of_reads' rd h1 (fun z => by rw [h2] at z; cases z) hg (by omega) (fun _ _ z => z) (fun h' u tk hk => ?_) h4
    exact ⟨.str p.shown, H, I.kept hk, ⟨_, rfl⟩, q⟩
  obtain ⟨as, rd⟩ := Dp.reads I p v u hd ru
  cases hd with
  | non => cases ru; exact PySem.P.repr_of_none (fin _)
  | bl b => cases ru; exact PySem.P.repr_of_bool (fin _)
  | int i =>
    obtain ⟨t, rfl⟩ := ru
    exact PySem.P.repr_of_int (of_decide_eq_true h1) (fin _)
  | str x =>
    obtain ⟨t, rfl⟩ := ru
    exact PySem.P.repr_of_str (fin _) h4
  | lst hs ha => exact big _ as ru rd
  | tup hs ha => exact big _ as ru rd
theorem sRep {K : PySem.W.Frag} : Sdn K fRep (rRepr K) := by
  intro φ H S ds vs d' Q s r hf k
  obtain ⟨d, p, rfl, e, ⟨h1, h2, h3, h4⟩, rfl⟩ := fRep_of hf
  obtain ⟨v, rfl, a⟩ := reps1 r
  exact ⟨v, p, rfl, Rep.dp d v p a e, ⟨h1, h2, h3, cap_line h4⟩, k φ H _ (Ext.refl _ _) s rfl⟩
theorem kit_ii : kitB "int" "int" = some true := by decide +kernel
theorem kit_ib : kitB "int" "bool" = some false := by decide +kernel
theorem kit_bi : kitB "bool" "int" = some true := by decide +kernel
theorem kit_bb : kitB "bool" "bool" = some true := by decide +kernel
theorem kit_ni : kitB "NoneType" "int" = some false := by decide +kernel
theorem kit_si : kitB "str" "int" = some false := by decide +kernel
theorem kit_ss : kitB "str" "str" = some true := by decide +kernel
theorem kit_tt : kitB "tuple" "tuple" = some true := by decide +kernel
theorem kit_ti : kitB "tuple" "int" = some false := by decide +kernel
theorem kit_lt : kitB "list" "tuple" = some false := by decide +kernel
end ML

set_option Elab.async false
set_option linter.all false
set_option maxRecDepth 100000
set_option maxHeartbeats 1000000
/-! ML: defs: called where no repr is under way. -/
namespace ML
open PySem PySem.Spec L2
open PyProof.Rows hiding St

/-- as the layer's FnOk, where moreover no guard is up -/
structure FnG (P : Program) (w : World) (K : PySem.W.Frag) (mg : Str → Option Value) (base : Heap) (k : Nat) (f : Addr) (fd : FuncData) (ps : List Str) (sp : Sp) : Prop where
  len : ∀ vs H Q E, sp vs H Q E → vs.length = ps.length
  run : ∀ (B : Around) (out : List Env) (t : Shared) (H : Hp) (as : Args) (us : List Value) (vs : List V) (Q : VK) (E : XK), Room k B → B.guards = some [] → Env0 P w K mg base B out t H → BindsTo t fd as (ps.zip us) → Vals vs us → sp vs H Q E →
    codeAny (model P w) B (.call (.ref f) as) (CR (L2.CX P w) out P w H t Q E) t
theorem FnG.mono {P : Program} {w : World} {K : PySem.W.Frag} {mg : Str → Option Value} {base : Heap} {j k : Nat} {f : Addr} {fd : FuncData} {ps : List Str} {sp : Sp} (F : FnG P w K mg base j f fd ps sp) (h : j ≤ k) : FnG P w K mg base k f fd ps sp :=
  ⟨F.len, fun B out t H as us vs Q E r => F.run B out t H as us vs Q E (r.mono h)⟩
theorem guards_deeper (B : Around) (env : Env) : (B.deeper env).guards = B.guards := rfl
section
variable {P : Program} {w : World} {K : PySem.W.Frag} {mg : Str → Option Value} {base : Heap}
/-- the context of a body, and that no guard is up there -/
theorem FnG.of {k : Nat} {f : Addr} {x qual : Str} {st : Stmt} {fd : FuncData} {N ps : List Str} {sp : Sp} (F : Fun K x qual st f fd) (sc : FnScope N ps (defScope st)) (len : ∀ vs H Q E, sp vs H Q E → vs.length = ps.length)
    (body : ∀ (cd : Value) (B : Around) (out : List Env) (t : Shared) (H : Hp) (vs : List V) (Q : VK) (E : XK), Room k (B.deeper (envOfC qual (defScope st) t.heap.objs.size f cd)) → B.guards = some [] → sp vs H Q E →
      ∃ tr, PSs (cxOf (L2.CX P w) P w K mg base N qual (defScope st) f cd B out t H E) (defBody st) tr ∧ tr { nx := fun _ H' => Q .non H', rt := Q } (L2.start N vs) H) : FnG P w K mg base (k + 1) f fd ps sp := by
  obtain ⟨oc, od, kV, doc, pm, an, cd, ct, osl, rfl, lk, hcd⟩ := F.ex
  refine ⟨len, fun B out t H as us vs Q E room gd e0 bd rv want => ?_⟩
  have hlen := len _ _ _ _ want
  have kin : K.In t.heap := e0.mod.kin.keeps fun a o e => (e0.bs a o e).1
  have nolim : t.heap.NoLimit := e0.mod.nolimit.keeps fun a o e => (e0.bs a o e).1
  have kinds : ∀ y ∈ ps.zip us, (defScope st).names.lookup y.1 = some .local ∨ ((defScope st).names.lookup y.1 = some .cell ∧ ((cellsFrom (t.heap.objs.size + 1) (defScope st).names []).lookup y.1).isSome = true) := by
    rintro ⟨n, v⟩ hy
    rcases sc.par n (List.of_mem_zip hy).1 with q | q
    · exact .inl q
    · exact .inr ⟨q, PySem.W.cellsFrom_some _ _ _ (.inl q)⟩
  refine codeAny_call_function room.depth (kin _ _ lk) rfl sc.co sc.gen rfl (PySem.W.codeRec_of kin hcd) (bd _ _ _ _ ?_)
  refine wpAny_newFunctionEnv_cells sc.kind kinds fun env henv t1 xx => ?_
  subst henv
  refine ⟨nolim.keeps xx.toInCall.keep, codeAny_func ?_⟩
  obtain ⟨tr, htr, q⟩ := body cd B out t H vs Q E (room.deeper _) gd want
  have I := inv_start (CX := L2.CX P w) (P := P) (w := w) (mg := mg) (base := base) (N := N) (qual := qual) (f := f) (cd := cd) (E := E) sc room.hd e0 hlen rv xx
  refine wpAny_mono (htr.run [] t1 (L2.start N vs) H _ I q) (fun fl t2 hs => ?_) fun er t2 hs => hs
  have fin : ∀ {σ' : St} {H' : Hp} {v : V} {u : Value}, Inv (cxOf (L2.CX P w) P w K mg base N qual (defScope st) f cd B out t H E) [] σ' H' t2 → RelV v u → Q v H' → CE out P w H t Q u t2 :=
    fun {_ H' v _} J r q => ⟨v, H', J.os, J.bare, J.base, J.hok, r, q⟩
  cases fl with
  | ret u =>
    obtain ⟨v, _, H', J, r, q⟩ := hs
    exact fin J r q
  | next =>
    obtain ⟨_, H', J, q⟩ := hs
    exact fin (v := V.non) (u := Value.none) J rfl q
  | brk =>
    obtain ⟨_, _, _, q⟩ := hs
    exact q.elim
  | cont =>
    obtain ⟨_, _, _, q⟩ := hs
    exact q.elim
end
section
variable {X : Cx} {k : Nat} {f : Addr} {fd : FuncData} {ps : List Str} {sp : Sp} {ds : List Value} {E : St → XK} {x : Str} {p pos : Pos} {e : Expr} {es : List Expr} {t : TA}
/-- the callee runs -/
theorem runG {pins : List (Addr × Obj)} {σ : St} {H : Hp} {s : Shared} {Q : VK} {us : List Value} {vs : List V} (F : FnG X.prog X.w X.K X.mg X.base k f fd ps sp) (room : Room k X.A) (gd : X.A.guards = some []) (bd : Binds X.K fd ps []) (px : PassesAt (L2.CX X.prog X.w) X σ (E σ))
    (I : Inv X pins σ H s) (r : Vals vs us) (h : sp vs H Q (E σ)) : wpAny (model X.prog X.w) X.A (call (.ref f) us) (EP X pins σ Q) X.xe s := by
  have hl : us.length = ps.length := by rw [← r.length]; exact F.len _ _ _ _ h
  have hb := bd s us I.kIn (by simpa using hl)
  rw [List.append_nil] at hb
  refine wpAny_call (codeAny_mono (F.run X.A X.stack s H ⟨us, []⟩ us vs Q (E σ) room gd I.env0 hb r h) fun res s' hq => ?_)
  cases res with
  | error er => exact px pins H s er s' I hq
  | ok fl =>
    cases fl with
    | ret u => exact I.after hq
    | next => exact hq.elim
    | brk => exact hq.elim
    | cont => exact hq.elim
def tCallG (sp : Sp) (E : St → XK) (t : TA) : TE := fun σ H Q => t σ H fun vs H1 => sp vs H1 Q (E σ)
theorem pe_callG (F : FnG X.prog X.w X.K X.mg X.base k f fd ps sp) (room : Room k X.A) (gd : X.A.guards = some []) (hg : Gl X x) (hm : X.mg x = some (.ref f)) (kp : PySem.W.keepIn X.K (.ref f) = true) (bd : Binds X.K fd ps []) (px : ∀ σ, PassesAt (L2.CX X.prog X.w) X σ (E σ))
    (ha : PA X (e :: es) t) (hdb : (x == ("__debug__" : Str)) = false := by decide) (he : starEach (e :: es) X.env = (false, eval e X.env) :: starEach es X.env := by rfl) (hpl : (backTo pos (starEach es X.env)).any (·.1) = false := by rfl) : PE X (.Call (.Name x p) (e :: es) [] pos) (tCallG sp E t) :=
  ⟨fun pins s σ H Q I h => wpAny_Call_Name_kw (ld_glob I hg hm
    (PySem.W.callWith_K (h₀ := X.base) I.ok.mod.kin kp (thn (ha.run pos pins s σ H _ I h) fun us s1 ⟨vs, H1, I1, r, q⟩ => ⟨I1.kIn, runG F room gd bd (px σ) I1 r q⟩) he hpl) hdb)⟩
/-- a local name that holds a def -/
theorem pe_callGL {i : Nat} (F : ∀ f, FnG X.prog X.w X.K X.mg X.base k f fd ps sp) : True := trivial
end

/-! ### a def's promise: it does what m does -/
abbrev Fm := List Dt → Mo Dt
def spM (K : PySem.W.Frag) (cl : Cl) (n : Nat) (m : Fm) : Sp := fun vs H Q E => vs.length = n ∧ ∃ φ ds S, Reps K φ H ds vs ∧ RepS K φ S H ∧ post K cl (fun c d H' => E c d H') φ H (m ds S) fun d _ φ' H' => ∀ v, Rep K φ' H' d v → Q v H'
abbrev FnM (P : Program) (w : World) (K : PySem.W.Frag) (mg : Str → Option Value) (base : Heap) (cl : Cl) (k : Nat) (f : Addr) (fd : FuncData) (ps : List Str) (m : Fm) : Prop := FnG P w K mg base k f fd ps (spM K cl ps.length m)
/-- a body's run as a def's -/
def Fl.out : Rs Fl → Rs Dt
  | .ok (.rt d) S => .ok d S
  | .ok (.nx _) S => .ok .non S
  | .ok _ _ => .bad
  | .exc c d S => .exc c d S
  | .bad => .bad
def nv0 (n : Nat) (ds : List Dt) : Nv := ds.map some ++ List.replicate (n - ds.length) none
def mDef (n : Nat) (mb : Nv → Mo Fl) : Fm := fun ds S => Fl.out (mb (nv0 n ds) S)
theorem repE_start {K : PySem.W.Frag} {φ : Fi} {H : Hp} {N : List Str} {ds : List Dt} {vs : List V} (r : Reps K φ H ds vs) : RepE K φ H (nv0 N.length ds) (L2.start N vs) := by
  have hl := r.length
  refine ⟨by unfold nv0 L2.start; simp [hl], fun i d e => ?_⟩
  unfold nv0 at e
  have hi : i < ds.length := by
    by_cases hi : i < ds.length
    · exact hi
    · rw [List.getElem?_append_right (by simpa using hi), List.getElem?_replicate] at e
      split at e <;> cases e
  rw [List.getElem?_append_left (by simpa using hi), List.getElem?_map] at e
  cases q : ds[i]? with
  | none => rw [q] at e; cases e
  | some d' =>
    rw [q] at e; cases e
    obtain ⟨v, h1, h2⟩ := r.get q
    refine ⟨v, ?_, h2⟩
    unfold L2.start
    rw [List.getElem?_append_left (by simp; omega), List.getElem?_map, h1]
    rfl
section
variable {P : Program} {w : World} {K : PySem.W.Frag} {mg : Str → Option Value} {base : Heap} {cl : Cl}
abbrev Wd (E : XK) : WX := fun c d _ H => E c d H
/-- THE RULE: a def does what its body's function does -/
theorem FnM.of {k : Nat} {f : Addr} {x qual : Str} {st : Stmt} {fd : FuncData} {N ps : List Str} {mb : Nv → Mo Fl} (F : Fun K x qual st f fd) (sc : FnScope N ps (defScope st))
    (body : ∀ (X : Cx) (cd : Value) (B : Around) (out : List Env) (t : Shared) (H : Hp) (E : XK), X = cxOf (L2.CX P w) P w K mg base N qual (defScope st) f cd B out t H E → Room k X.A → X.A.guards = some [] → Takes X (Wd E) → PassesOwn (model X.prog X.w) X.A X.env X.xe → PSsm cl (Wd E) X (defBody st) mb) :
    FnM P w K mg base cl (k + 1) f fd ps (mDef N.length mb) := by
  refine FnG.of F sc (fun vs H Q E h => h.1) fun cd B out t H vs Q E room gd want => ?_
  obtain ⟨_, φ, ds, S, r, s, h⟩ := want
  have tk : Takes (cxOf (L2.CX P w) P w K mg base N qual (defScope st) f cd B out t H E) (Wd E) := takes_of (E := E) (E₁ := fun e' s'' => L2.CX P w out H t E e' s'') rfl rfl rfl rfl
  have ps' : PassesOwn (model P w) (B.deeper (envOfC qual (defScope st) t.heap.objs.size f cd)) (envOfC qual (defScope st) t.heap.objs.size f cd) (cxOf (L2.CX P w) P w K mg base N qual (defScope st) f cd B out t H E).xe := passes_of (X := cxOf (L2.CX P w) P w K mg base N qual (defScope st) f cd B out t H E) rfl
  refine ⟨_, body _ cd B out t H E rfl room gd tk ps', ?_⟩
  refine ⟨φ, nv0 N.length ds, S, repE_start r, s, ?_⟩
  unfold mDef at h
  cases q : mb (nv0 N.length ds) S with
  | ok fl S' =>
    rw [q] at h
    cases fl with
    | nx ρ => exact fun φ' H' e s' σ' _ => h φ' H' e s' .non rfl
    | rt d => exact fun φ' H' e s' v r => h φ' H' e s' v r
    | bk ρ => exact False.elim h
    | ct ρ => exact False.elim h
  | exc c d S' =>
    rw [q] at h
    exact fun φ' H' e s' C g dx v hc r hd σ' => h φ' H' e s' C g dx v hc r hd
  | bad => rw [q] at h; exact False.elim h
/-- what is known of a def, to call it -/
structure Cal (P : Program) (w : World) (K : PySem.W.Frag) (mg : Str → Option Value) (base : Heap) (cl : Cl) (k : Nat) (x : Str) (n : Nat) (m : Fm) : Prop where
  ex : ∃ (f : Addr) (fd : FuncData) (ps : List Str), FnM P w K mg base cl k f fd ps m ∧ ps.length = n ∧ mg x = some (.ref f) ∧ PySem.W.keepIn K (.ref f) = true ∧ Binds K fd ps []
end
def mArg (n : Nat) (m : Fm) : Fm := fun ds => if ds.length = n then m ds else Mo.no
def mCall (n : Nat) (m : Fm) (ms : Nv → Mo (List Dt)) : Nv → Mo Dt := fun ρ => ms ρ >>= fun ds => mArg n m ds
section
variable {X : Cx} {cl : Cl} {W : WX} {k j n : Nat} {m : Fm} {x : Str} {p pos : Pos} {e : Expr} {es : List Expr} {ms : Nv → Mo (List Dt)}
theorem em_call (C : Cal X.prog X.w X.K X.mg X.base cl k x n m) (room : Room j X.A) (gd : X.A.guards = some []) (tk : Takes X W) (ha : PAm cl W X (e :: es) ms) (hk : k ≤ j := by decide) (hg : Gl X x := by rfl) (hdb : (x == ("__debug__" : Str)) = false := by decide)
    (he : starEach (e :: es) X.env = (false, eval e X.env) :: starEach es X.env := by rfl) (hpl : (backTo pos (starEach es X.env)).any (·.1) = false := by rfl) : PEm cl W X (.Call (.Name x p) (e :: es) [] pos) (mCall n m ms) := by
  obtain ⟨f, fd, ps, F, hps, hm, kp, bd⟩ := C.ex
  refine ⟨fun pins s σ H Q I h => wpAny_Call_Name_kw (ld_glob I hg hm ?_ hdb)⟩
  obtain ⟨φ, ρ, S, er, sr, h⟩ := h
  have go := (tA.b1 (f := fun ds _ => mArg n m ds) er sr h)
  refine PySem.W.callWith_K (h₀ := X.base) I.ok.mod.kin kp (thn (ha.run pos pins s σ H _ I go) fun us s1 ⟨vs, H1, I1, r, φ1, S1, ds, x1, e1, sr1, r1, p1⟩ => ⟨I1.kIn, ?_⟩) he hpl
  unfold mArg at p1
  by_cases hn : ds.length = n
  · rw [if_pos hn] at p1
    exact runG F (room.mono hk) gd bd (E := WE W) (passAt tk σ) I1 r ⟨by rw [← r1.length, hn, hps], φ1, ds, S1, r1, sr1, p1⟩
  · rw [if_neg hn] at p1
    exact False.elim p1
end

/-! ### statements -/
def mNx : Nv → Mo Fl := fun ρ => Mo.ret (.nx ρ)
def mThen (ma mb : Nv → Mo Fl) : Nv → Mo Fl := fun ρ => ma ρ >>= fun f => match f with
  | .nx ρ' => mb ρ'
  | f => Mo.ret f
def mRt (m : Nv → Mo Dt) : Nv → Mo Fl := fun ρ => m ρ >>= fun d => Mo.ret (.rt d)
def mDrop (m : Nv → Mo Dt) : Nv → Mo Fl := fun ρ => m ρ >>= fun _ => Mo.ret (.nx ρ)
def mSet (i : Nat) (m : Nv → Mo Dt) : Nv → Mo Fl := fun ρ => m ρ >>= fun d => Mo.ret (.nx (ρ.set i (some d)))
/-- a target, by the value -/
abbrev Tg := Dt → Nv → Option Nv
def gN (i : Nat) : Tg := fun d ρ => some (ρ.set i (some d))
def gT (ts : List Dt → Nv → Option Nv) : Tg := fun d ρ => match d with
  | .tup xs => ts xs ρ
  | _ => none
def gTs0 : List Dt → Nv → Option Nv := fun ds ρ => match ds with
  | [] => some ρ
  | _ => none
def gTs (t : Tg) (ts : List Dt → Nv → Option Nv) : List Dt → Nv → Option Nv := fun ds ρ => match ds with
  | d :: r => (t d ρ).bind (ts r)
  | [] => none
def mAsg (t : Tg) (m : Nv → Mo Dt) : Nv → Mo Fl := fun ρ => m ρ >>= fun d => Mo.rd fun _ => (t d ρ).map Fl.nx
section
variable {cl : Cl} {W : WX} {X : Cx} {pos : Pos} {e : Expr} {m : Nv → Mo Dt}
theorem post.fl {K : PySem.W.Frag} {V : Value → Option Addr → Hp → Prop} {V' : Value → Option Addr → Hp → Prop} {φ : Fi} {H : Hp} {α : Type} {r : Rs α} {k : α → Sto → Fi → Hp → Prop} (h : post K cl V φ H r k) (f : ∀ c d H', V c d H' → V' c d H') : post K cl V' φ H r k := by
  cases r with
  | ok a S' => exact h
  | exc c d S' => exact fun φ' H' e s C g dx v hc r hd => f _ _ _ (h φ' H' e s C g dx v hc r hd)
  | bad => exact h
/-- from a statement's state to its first expression's -/
theorem tS.ex {K : PySem.W.Frag} {α : Type} {ma : Nv → Mo Dt} {f : Dt → Nv → Mo α} {k : α → Sto → Fi → Hp → Prop} {φ ρ S σ H} (e : RepE K φ H ρ σ) (s : RepS K φ S H) (h : post K cl (fun c d H' => ∀ σ', W c d σ' H') φ H ((ma ρ >>= fun d => f d ρ) S) k) :
    tE K cl W ma σ H fun x H1 => ∃ φ1 S1 d, Ext φ H φ1 H1 ∧ RepE K φ1 H1 ρ σ ∧ RepS K φ1 S1 H1 ∧ Rep K φ1 H1 d x ∧ post K cl (fun c d H' => ∀ σ', W c d σ' H') φ1 H1 (f d ρ S1) k :=
  ⟨φ, ρ, S, e, s, (h.bnd.fl fun _ _ _ z => z σ).imp fun d S' φ' H' x s' q v r => ⟨φ', S', d, x, e.mono x, s', r, q⟩⟩
theorem tS.tt {K : PySem.W.Frag} {α : Type} {ma : Nv → Mo Bool} {f : Bool → Nv → Mo α} {k : α → Sto → Fi → Hp → Prop} {φ ρ S σ H} (e : RepE K φ H ρ σ) (s : RepS K φ S H) (h : post K cl (fun c d H' => ∀ σ', W c d σ' H') φ H ((ma ρ >>= fun d => f d ρ) S) k) :
    tT K cl W ma σ H fun b H1 => ∃ φ1 S1, Ext φ H φ1 H1 ∧ RepE K φ1 H1 ρ σ ∧ RepS K φ1 S1 H1 ∧ post K cl (fun c d H' => ∀ σ', W c d σ' H') φ1 H1 (f b ρ S1) k :=
  ⟨φ, ρ, S, e, s, (h.bnd.fl fun _ _ _ z => z σ).imp fun d S' φ' H' x s' q => ⟨φ', S', x, e.mono x, s', q⟩⟩
theorem tS.ar {K : PySem.W.Frag} {α : Type} {ma : Nv → Mo (List Dt)} {f : List Dt → Nv → Mo α} {k : α → Sto → Fi → Hp → Prop} {φ ρ S σ H} (e : RepE K φ H ρ σ) (s : RepS K φ S H) (h : post K cl (fun c d H' => ∀ σ', W c d σ' H') φ H ((ma ρ >>= fun d => f d ρ) S) k) :
    tA K cl W ma σ H fun x H1 => ∃ φ1 S1 d, Ext φ H φ1 H1 ∧ RepE K φ1 H1 ρ σ ∧ RepS K φ1 S1 H1 ∧ Reps K φ1 H1 d x ∧ post K cl (fun c d H' => ∀ σ', W c d σ' H') φ1 H1 (f d ρ S1) k :=
  ⟨φ, ρ, S, e, s, (h.bnd.fl fun _ _ _ z => z σ).imp fun d S' φ' H' x s' q v r => ⟨φ', S', d, x, e.mono x, s', r, q⟩⟩
theorem sm_pass : PSm cl W X (.Pass pos) mNx := PS_imp ps_pass fun D σ H h => by
  obtain ⟨φ, ρ, S, e, s, h⟩ := h
  exact h.ok s σ e
theorem sm_break : PSm cl W X (.Break pos) (fun ρ => Mo.ret (.bk ρ)) := PS_imp ps_break fun D σ H h => by
  obtain ⟨φ, ρ, S, e, s, h⟩ := h
  exact h.ok s σ e
theorem sm_cont : PSm cl W X (.Continue pos) (fun ρ => Mo.ret (.ct ρ)) := PS_imp ps_continue fun D σ H h => by
  obtain ⟨φ, ρ, S, e, s, h⟩ := h
  exact h.ok s σ e
theorem sm_ret (he : PEm cl W X e m) : PSm cl W X (.Return (some e) pos) (mRt m) := PS_imp (ps_ret he) fun D σ H h => by
  obtain ⟨φ, ρ, S, e, s, h⟩ := h
  exact (tS.ex (f := fun d _ => Mo.ret (Fl.rt d)) e s h).imp fun x H1 ⟨φ1, S1, d, x1, e1, s1, r1, p⟩ => p.ok s1 x r1
theorem sm_expr (he : PEm cl W X e m) (hs : swapsWith e none pos.line X.env = pure false := by rfl) : PSm cl W X (.Expr e pos) (mDrop m) := PS_imp (ps_expr he hs) fun D σ H h => by
  obtain ⟨φ, ρ, S, e, s, h⟩ := h
  exact (tS.ex (f := fun _ ρ => Mo.ret (Fl.nx ρ)) e s h).imp fun x H1 ⟨φ1, S1, d, x1, e1, s1, r1, p⟩ => p.ok s1 σ e1
theorem sm_set {i : Nat} {x : Str} {p' : Pos} (hN : X.N.Nodup) (he : PEm cl W X e m) (hi : X.N[i]? = some x := by rfl) (hx : Loc X.env.scope x := by first | exact .inl rfl | exact .inr rfl) (hs : swapsWith e (some (.Name x p')) pos.line X.env = pure false := by rfl)
    (hf : X.fn x = true ∨ X.env.scope.names.lookup x = some .local := by first | exact .inl rfl | exact .inr rfl) : PSm cl W X (.Assign [.Name x p'] e pos) (mSet i m) := PS_imp (ps_set hN hi hx he hs hf) fun D σ H h => by
  obtain ⟨φ, ρ, S, e, s, h⟩ := h
  exact (tS.ex (f := fun d ρ => Mo.ret (Fl.nx (ρ.set i (some d)))) e s h).imp fun x H1 ⟨φ1, S1, d, x1, e1, s1, r1, p⟩ => p.ok s1 _ (e1.set r1 i)
theorem ssm_nil : PSsm cl W X [] mNx := PSs_imp pss_nil fun D σ H h => by
  obtain ⟨φ, ρ, S, e, s, h⟩ := h
  exact h.ok s σ e
theorem ssm_one {s : Stmt} {ma : Nv → Mo Fl} (h : PSm cl W X s ma) : PSsm cl W X [s] ma := pss_one h
theorem ssm_cons {s : Stmt} {r : List Stmt} {ma mb : Nv → Mo Fl} (h1 : PSm cl W X s ma) (h2 : PSsm cl W X r mb) : PSsm cl W X (s :: r) (mThen ma mb) := PSs_imp (pss_cons h1 h2) fun D σ H h => by
  obtain ⟨φ, ρ, S, e, s, h⟩ := h
  refine ⟨φ, ρ, S, e, s, h.bnd.imp fun f S1 φ1 H1 x1 s1 p => ?_⟩
  cases f with
  | nx ρ' => exact fun σ' e' => ⟨φ1, ρ', S1, e', s1, p⟩
  | rt d => exact p.ok s1
  | bk ρ' => exact p.ok s1
  | ct ρ' => exact p.ok s1
theorem sm_if {c : Expr} {a b : List Stmt} {mt : Nv → Mo Bool} {ma mb : Nv → Mo Fl} (hc : PTm cl W X c mt) (ha : PSsm cl W X a ma) (hb : PSsm cl W X b mb) : PSm cl W X (.If c a b pos) (mIf mt ma mb) := PS_imp (ps_if hc ha hb) fun D σ H h => by
  obtain ⟨φ, ρ, S, e, s, h⟩ := h
  refine (tS.tt (f := fun b ρ => if b = true then ma ρ else mb ρ) e s h).imp fun b H1 ⟨φ1, S1, x1, e1, s1, p⟩ => ?_
  cases b with
  | true => exact ⟨φ1, ρ, S1, e1, s1, p⟩
  | false => exact ⟨φ1, ρ, S1, e1, s1, p⟩
/-! targets; sl: the slots that may be stored -/
def Only (sl : List Nat) (σ σ' : St) : Prop := σ'.length = σ.length ∧ ∀ j, j ∉ sl → σ'[j]? = σ[j]?
theorem Only.refl (σ : St) : Only [] σ σ := ⟨rfl, fun _ _ => rfl⟩
theorem Only.trans {a b : List Nat} {σ σ1 σ2 : St} (h : Only a σ σ1) (g : Only b σ1 σ2) : Only (a ++ b) σ σ2 :=
  ⟨g.1.trans h.1, fun j m => (g.2 j fun z => m (List.mem_append_right _ z)).trans (h.2 j fun z => m (List.mem_append_left _ z))⟩
theorem Only.set (σ : St) (i : Nat) (v : Option V) : Only [i] σ (σ.set i v) := ⟨by simp, fun j m => by rw [List.getElem?_set_ne (fun z => m (by simp [z]))]⟩
theorem wipe_get (σ : St) : ∀ (vs : List Nat) (j : Nat), (wipe σ vs)[j]? = if j ∈ vs then (if j < σ.length then some none else none) else σ[j]?
  | [], j => by simp [wipe]
  | v :: vs, j => by
    unfold wipe
    by_cases h : v = j
    · subst h
      rw [if_pos List.mem_cons_self]
      by_cases hl : v < σ.length
      · rw [if_pos hl, List.getElem?_set_self (by rw [wipe_length]; exact hl)]
      · rw [if_neg hl, List.getElem?_eq_none (by simp [wipe_length]; omega)]
    · rw [List.getElem?_set_ne h, wipe_get σ vs j]
      by_cases m : j ∈ vs
      · rw [if_pos m, if_pos (List.mem_cons_of_mem _ m)]
      · rw [if_neg m, if_neg (fun z => (List.mem_cons.mp z).elim (fun e => h e.symm) m)]
theorem Only.wipe {sl vs : List Nat} {σ σ' : St} (h : Only sl σ σ') (m : ∀ i ∈ sl, i ∈ vs) : L2.wipe σ' vs = L2.wipe σ vs := by
  refine List.ext_getElem? fun j => ?_
  rw [wipe_get, wipe_get, h.1]
  by_cases q : j ∈ vs
  · rw [if_pos q, if_pos q]
  · rw [if_neg q, if_neg q, h.2 j fun z => q (m j z)]
def PGm (X : Cx) (tg : Expr) (sl : List Nat) (t : Tg) : Prop := PG X tg fun v σ H Q => ∃ φ ρ d ρ', RepE X.K φ H ρ σ ∧ Rep X.K φ H d v ∧ t d ρ = some ρ' ∧ ∀ σ', RepE X.K φ H ρ' σ' → Only sl σ σ' → Q σ' H
def PGsm (X : Cx) (tg : List Expr) (sl : List Nat) (t : List Dt → Nv → Option Nv) : Prop := PGs X tg fun vs σ H Q => ∃ φ ρ ds ρ', RepE X.K φ H ρ σ ∧ Reps X.K φ H ds vs ∧ t ds ρ = some ρ' ∧ ∀ σ', RepE X.K φ H ρ' σ' → Only sl σ σ' → Q σ' H
theorem PG_imp {tg : Expr} {t t' : TG} (h : PG X tg t) (f : ∀ v σ H Q, t' v σ H Q → t v σ H Q) : PG X tg t' := ⟨fun pins s σ H v u Q I r q => h.run pins s σ H v u Q I r (f v σ H Q q)⟩
theorem PGs_imp {tg : List Expr} {t t' : TGs} (h : PGs X tg t) (f : ∀ v σ H Q, t' v σ H Q → t v σ H Q) : PGs X tg t' := ⟨fun pins s σ H v u Q I r q => h.run pins s σ H v u Q I r (f v σ H Q q)⟩
theorem gm_name {i : Nat} {x : Str} (hN : X.N.Nodup) (hi : X.N[i]? = some x := by rfl) (hx : Loc X.env.scope x := by first | exact .inl rfl | exact .inr rfl) (hf : X.fn x = true ∨ X.env.scope.names.lookup x = some .local := by first | exact .inl rfl | exact .inr rfl) : PGm X (.Name x pos) [i] (gN i) :=
  PG_imp (pg_name hN hi hx hf) fun v σ H Q ⟨φ, ρ, d, ρ', e, r, h, q⟩ => by
    cases (show some (ρ.set i (some d)) = some ρ' from h)
    exact q _ (e.set r i) (Only.set σ i _)
theorem gm_nil : PGsm X [] [] gTs0 := PGs_imp pgs_nil fun vs σ H Q ⟨φ, ρ, ds, ρ', e, r, h, q⟩ => by
  cases ds with
  | nil =>
    cases (show some ρ = some ρ' from h)
    exact ⟨r, q σ e (Only.refl σ)⟩
  | cons d r => cases (show (none : Option Nv) = some ρ' from h)
theorem gm_cons {a : Expr} {as : List Expr} {sa sb : List Nat} {t : Tg} {ts : List Dt → Nv → Option Nv} (h1 : PGm X a sa t) (h2 : PGsm X as sb ts) (hs : (assignEach (a :: as) X.env).map (·.2) = assign a X.env :: (assignEach as X.env).map (·.2) := by rfl) : PGsm X (a :: as) (sa ++ sb) (gTs t ts) :=
  PGs_imp (pgs_cons h1 h2 hs) fun vs σ H Q ⟨φ, ρ, ds, ρ', e, r, h, q⟩ => by
    cases ds with
    | nil => cases (show (none : Option Nv) = some ρ' from h)
    | cons d rs =>
      obtain ⟨v, us, rfl, r1, r2⟩ := r
      have h : (t d ρ).bind (ts rs) = some ρ' := h
      cases z : t d ρ with
      | none => rw [z] at h; cases h
      | some ρ1 =>
        rw [z] at h
        exact ⟨v, us, rfl, φ, ρ, d, ρ1, e, r1, z, fun σ1 e1 o1 => ⟨φ, ρ1, rs, ρ', e1, r2, h, fun σ2 e2 o2 => q σ2 e2 (o1.trans o2)⟩⟩
theorem gm_tup {es : List Expr} {k n : Nat} {sl : List Nat} {ts : List Dt → Nv → Option Nv} (hc : X.calm = true) (h : PGsm X es sl ts) (hl : ∀ ds ρ ρ', ts ds ρ = some ρ' → ds.length = n) (hn : (assignEach es X.env).length = n := by rfl) (hst : (assignEach es X.env).findIdx? (·.1) = none := by rfl) : PGm X (.Tuple es k pos) sl (gT ts) :=
  PG_imp (pg_tup hc h hn hst) fun v σ H Q ⟨φ, ρ, d, ρ', e, r, h, q⟩ => by
    cases d with
    | tup xs =>
      obtain ⟨a, vs, rfl, t, z⟩ := r
      have h : ts xs ρ = some ρ' := h
      exact ⟨a, vs, rfl, t.seq, by rw [← z.length]; exact hl _ _ _ h, φ, ρ, xs, ρ', e, z, h, q⟩
    | _ => cases (show (none : Option Nv) = some ρ' from h)
theorem gT_len0 {ds : List Dt} {ρ ρ' : Nv} (h : gTs0 ds ρ = some ρ') : ds.length = 0 := by
  cases ds with
  | nil => rfl
  | cons d r => cases h
theorem gT_len {t : Tg} {ts : List Dt → Nv → Option Nv} {n : Nat} (h : ∀ ds ρ ρ', ts ds ρ = some ρ' → ds.length = n) : ∀ ds ρ ρ', gTs t ts ds ρ = some ρ' → ds.length = n + 1 := by
  intro ds ρ ρ' q
  cases ds with
  | nil => cases q
  | cons d r =>
    have q : (t d ρ).bind (ts r) = some ρ' := q
    cases z : t d ρ with
    | none => rw [z] at q; cases q
    | some ρ1 => rw [z] at q; rw [List.length_cons, h _ _ _ q]
theorem sm_asg {tg : Expr} {sl : List Nat} {t : Tg} (he : PEm cl W X e m) (hg : PGm X tg sl t) (hs : swapsWithSole [tg] e pos.line X.env = pure false := by rfl) (hw : swappedStores [tg] e X.env = pure none := by rfl)
    (h1 : (assignEach [tg] X.env).map (·.2) = [assign tg X.env] := by rfl) : PSm cl W X (.Assign [tg] e pos) (mAsg t m) := PS_imp (ps_asg he hg hs hw h1) fun D σ H h => by
  obtain ⟨φ, ρ, S, e, s, h⟩ := h
  refine (tS.ex (f := fun d ρ => Mo.rd fun _ => (t d ρ).map Fl.nx) e s h).imp fun x H1 ⟨φ1, S1, d, x1, e1, s1, r1, p⟩ => ?_
  obtain ⟨f, hf, q⟩ := p.rd
  cases z : t d ρ with
  | none => rw [z] at hf; cases hf
  | some ρ' =>
    rw [z] at hf; cases hf
    exact ⟨φ1, ρ, d, ρ', e1, r1, z, fun σ' e' _ => q φ1 H1 (Ext.refl _ _) s1 σ' e'⟩
end
end ML

set_option Elab.async false
set_option linter.all false
set_option maxRecDepth 100000
set_option maxHeartbeats 1000000
/-! ML: stores into objects, for, while, comprehensions. -/
namespace ML
open PySem PySem.Spec L2
open PyProof.Rows hiding St

/-! ### a, b = x, y; x op= e -/
def mPar (is : List Nat) (ms : Nv → Mo (List Dt)) : Nv → Mo Fl := fun ρ => ms ρ >>= fun ds => Mo.rd fun _ => match is, ds with
  | [i, j], [d, e] => some (.nx ((ρ.set i (some d)).set j (some e)))
  | [i, j, l], [d, e, f] => some (.nx (((ρ.set i (some d)).set j (some e)).set l (some f)))
  | _, _ => none
def mAug (i : Nat) (f : Dt → Dt → Sto → Option Dt) (m : Nv → Mo Dt) : Nv → Mo Fl := fun ρ => mVar i ρ >>= fun d => m ρ >>= fun e => Mo.rd (f d e) >>= fun r => Mo.ret (.nx (ρ.set i (some r)))
section
variable {cl : Cl} {W : WX} {X : Cx} {pos : Pos}
theorem sm_par2 {i j : Nat} {x y : Str} {a b : Expr} {ms : Nv → Mo (List Dt)} {px py pt : Pos} {kt k2 pt2} (hc : X.calm = true) (hN : X.N.Nodup) (ha : PAm cl W X [a, b] ms) (hi : X.N[i]? = some x := by rfl) (hj : X.N[j]? = some y := by rfl) (hij : i ≠ j := by decide)
    (hx : X.env.scope.names.lookup x = some .local := by rfl) (hy : X.env.scope.names.lookup y = some .local := by rfl)
    (hw : swappedStores [.Tuple [.Name x px, .Name y py] kt pt] (.Tuple [a, b] k2 pt2) X.env = pure (some [x, y]) := by rfl)
    (hs : swapsWithSole [.Tuple [.Name x px, .Name y py] kt pt] (.Tuple [a, b] k2 pt2) pos.line X.env = pure false := by rfl) :
    PSm cl W X (.Assign [.Tuple [.Name x px, .Name y py] kt pt] (.Tuple [a, b] k2 pt2) pos) (mPar [i, j] ms) := PS_imp (ps_par hc hN hi hj hij hx hy ha hw hs) fun D σ H h => by
  obtain ⟨φ, ρ, S, e, s, h⟩ := h
  refine (tS.ar (f := fun ds ρ => Mo.rd fun _ => match ([i, j] : List Nat), ds with
    | [i, j], [d, e] => some (Fl.nx ((ρ.set i (some d)).set j (some e)))
    | [i, j, l], [d, e, f] => some (.nx (((ρ.set i (some d)).set j (some e)).set l (some f)))
    | _, _ => none) e s h).imp fun vs H1 ⟨φ1, S1, ds, x1, e1, s1, r1, p⟩ => ?_
  obtain ⟨f, hf, q⟩ := p.rd
  match ds, hf, r1 with
  | [d, d'], hf, r1 =>
    cases hf
    obtain ⟨v, u, rfl, a1, a2⟩ := reps2 r1
    exact ⟨v, u, rfl, q φ1 H1 (Ext.refl _ _) s1 _ ((e1.set a1 i).set a2 j)⟩
  | [], hf, r1 => cases hf
  | [_], hf, r1 => cases hf
  | _ :: _ :: _ :: _, hf, r1 => cases hf
theorem sm_par3 {i j l : Nat} {x y z : Str} {a b c : Expr} {ms : Nv → Mo (List Dt)} {px py pz pt : Pos} {kt k2 pt2} (hc : X.calm = true) (hN : X.N.Nodup) (ha : PAm cl W X [a, b, c] ms) (hi : X.N[i]? = some x := by rfl) (hj : X.N[j]? = some y := by rfl) (hl : X.N[l]? = some z := by rfl) (hij : i ≠ j := by decide) (hil : i ≠ l := by decide) (hjl : j ≠ l := by decide)
    (hx : X.env.scope.names.lookup x = some .local := by rfl) (hy : X.env.scope.names.lookup y = some .local := by rfl) (hz : X.env.scope.names.lookup z = some .local := by rfl)
    (hw : swappedStores [.Tuple [.Name x px, .Name y py, .Name z pz] kt pt] (.Tuple [a, b, c] k2 pt2) X.env = pure (some [x, y, z]) := by rfl)
    (hs : swapsWithSole [.Tuple [.Name x px, .Name y py, .Name z pz] kt pt] (.Tuple [a, b, c] k2 pt2) pos.line X.env = pure false := by rfl) :
    PSm cl W X (.Assign [.Tuple [.Name x px, .Name y py, .Name z pz] kt pt] (.Tuple [a, b, c] k2 pt2) pos) (mPar [i, j, l] ms) := PS_imp (ps_par3 hc hN hi hj hl hij hil hjl hx hy hz ha hw hs) fun D σ H h => by
  obtain ⟨φ, ρ, S, e, s, h⟩ := h
  refine (tS.ar (f := fun ds ρ => Mo.rd fun _ => match ([i, j, l] : List Nat), ds with
    | [i, j], [d, e] => some (Fl.nx ((ρ.set i (some d)).set j (some e)))
    | [i, j, l], [d, e, f] => some (.nx (((ρ.set i (some d)).set j (some e)).set l (some f)))
    | _, _ => none) e s h).imp fun vs H1 ⟨φ1, S1, ds, x1, e1, s1, r1, p⟩ => ?_
  obtain ⟨f, hf, q⟩ := p.rd
  match ds, hf, r1 with
  | [d, d', d''], hf, r1 =>
    cases hf
    obtain ⟨v, r, rfl, a1, r2⟩ := r1
    obtain ⟨u, w', rfl, a2, a3⟩ := reps2 r2
    exact ⟨v, u, w', rfl, q φ1 H1 (Ext.refl _ _) s1 _ (((e1.set a1 i).set a2 j).set a3 l)⟩
  | [], hf, r1 => cases hf
  | [_], hf, r1 => cases hf
  | [_, _], hf, r1 => cases hf
  | _ :: _ :: _ :: _ :: _, hf, r1 => cases hf
theorem sm_aug {i : Nat} {x : Str} {e : Expr} {op : Operator} {f : Dt → Dt → Sto → Option Dt} {r : R2} {m : Nv → Mo Dt} {pos' : Pos} (ho : OpR X (inplaceOp op) r) (hs : Sd2 X.K f r) (hN : X.N.Nodup) (he : PEm cl W X e m) (hi : X.N[i]? = some x := by rfl) (hx : Loc X.env.scope x := by first | exact .inl rfl | exact .inr rfl)
    (hf : X.fn x = true ∨ X.env.scope.names.lookup x = some .local := by first | exact .inl rfl | exact .inr rfl) : PSm cl W X (.AugAssign (.Name x pos') op e pos) (mAug i f m) := PS_imp (ps_aug (ti := r) hN hi hx he ho hf) fun D σ H h => by
  obtain ⟨φ, ρ, S, er, sr, h⟩ := h
  unfold mAug at h
  have h0 := h.bnd
  unfold mVar at h0
  cases q : (ρ[i]?).join with
  | none => rw [q] at h0; exact False.elim h0
  | some d =>
    rw [q] at h0
    have h1 := h0.ok sr
    obtain ⟨v, e1, r1⟩ := er.at_ i d (Option.join_eq_some_iff.mp q)
    refine ⟨v, e1, (tS.ex (f := fun e ρ => Mo.rd (f d e) >>= fun r => Mo.ret (Fl.nx (ρ.set i (some r)))) er sr h1).imp fun y H1 ⟨φ1, S1, d2, x1, e2, s1, r2, p⟩ => ?_⟩
    obtain ⟨d3, hd, q3⟩ := p.bnd.rd
    exact hs φ1 H1 S1 d d2 v y d3 _ s1 (Rep.mono x1 _ _ r1) r2 hd fun φ2 H2 z x2 s2 r3 => (q3 φ2 H2 x2 s2).ok s2 _ ((e2.mono x2).set r3 i)
/-! ### o[i] = v -/
def dputV : List Key → List Dt → Key → Dt → List Dt
  | k :: ks, x :: xs, j, v => (if k = j then v else x) :: dputV ks xs j v
  | _, _, _, _ => []
def dput (ks : List Key) (xs : List Dt) (k : Key) (v : Dt) : List Key × List Dt := if (ks.any fun j => decide (j = k)) = true then (ks, dputV ks xs k v) else (ks ++ [k], xs ++ [v])
theorem dputV_of {K φ H} {k : Key} {d : Dt} {v : V} (r : Rep K φ H d v) : ∀ {xs : List Dt} {kvs : List (Key × V)}, Reps K φ H xs (kvs.map (·.2)) → Reps K φ H (dputV (kvs.map (·.1)) xs k d) ((kvs.map fun kv => if kv.1 = k then (kv.1, v) else kv).map (·.2))
  | xs, [], h => by
    cases xs with
    | nil => exact rfl
    | cons x r => obtain ⟨_, _, z, _⟩ := h; cases z
  | [], kv :: kvs, h => by cases (show kv.2 :: kvs.map (·.2) = [] from h)
  | x :: xs, kv :: kvs, h => by
    obtain ⟨u, q, z, a, b⟩ := (show ∃ v r, kv.2 :: kvs.map (·.2) = v :: r ∧ Rep K φ H x v ∧ Reps K φ H xs r from h)
    cases z
    have ih := dputV_of r b (k := k)
    show Reps K φ H ((if kv.1 = k then d else x) :: dputV (kvs.map (·.1)) xs k d) ((if kv.1 = k then (kv.1, v) else kv).2 :: ((kvs.map fun kv => if kv.1 = k then (kv.1, v) else kv).map (·.2)))
    by_cases e : kv.1 = k
    · rw [if_pos e, if_pos e]; exact ⟨_, _, rfl, r, ih⟩
    · rw [if_neg e, if_neg e]; exact ⟨_, _, rfl, a, ih⟩
theorem dput_of {K φ H} {k : Key} {d : Dt} {v : V} (r : Rep K φ H d v) {xs : List Dt} {kvs : List (Key × V)} (h : Reps K φ H xs (kvs.map (·.2))) :
    (putK kvs k v).map (·.1) = (dput (kvs.map (·.1)) xs k d).1 ∧ Reps K φ H (dput (kvs.map (·.1)) xs k d).2 ((putK kvs k v).map (·.2)) := by
  have em : ((kvs.map (·.1)).any fun j => decide (j = k)) = kvs.any fun kv => decide (kv.1 = k) := by
    rw [List.any_map]; rfl
  unfold putK dput
  rw [em]
  by_cases q : (kvs.any fun kv => decide (kv.1 = k)) = true
  · rw [if_pos q, if_pos q]
    refine ⟨?_, dputV_of r h⟩
    rw [List.map_map]
    refine List.map_congr_left fun kv _ => ?_
    show (if kv.1 = k then (kv.1, v) else kv).1 = kv.1
    split <;> rfl
  · rw [if_neg q, if_neg q]
    exact ⟨by simp, by rw [List.map_append]; exact Reps.app h ⟨_, _, rfl, r, rfl⟩⟩
def putO (o i v : Dt) (S : Sto) : Option Sto := match o with
  | .obj n => match S[n]? with
    | some (.lst xs) => i.asInt.bind fun k => (ixN xs.length k).map fun j => S.set n (.lst (xs.set j v))
    | some (.dK ks xs) => i.key.bind fun k => if ks.length < cap then some (S.set n (.dK (dput ks xs k v).1 (dput ks xs k v).2)) else none
    | none => none
  | _ => none
def Mo.wr (f : Sto → Option Sto) : Mo Unit := fun S => match f S with
  | some S' => .ok () S'
  | none => .bad
theorem Mo.wr_ok {f : Sto → Option Sto} {S S' : Sto} (h : f S = some S') : Mo.wr f S = .ok () S' := by
  show (match f S with | some S' => Rs.ok () S' | none => .bad) = _
  rw [h]
theorem post.wr {K : PySem.W.Frag} {cl : Cl} {W : Value → Option Addr → Hp → Prop} {φ : Fi} {H : Hp} {f : Sto → Option Sto} {S : Sto} {k : Unit → Sto → Fi → Hp → Prop} (h : post K cl W φ H (Mo.wr f S) k) : ∃ S', f S = some S' ∧ ∀ φ' H', Ext φ H φ' H' → RepS K φ' S' H' → k () S' φ' H' := by
  cases e : f S with
  | some a => rw [Mo.wr_ok e] at h; exact ⟨a, rfl, h⟩
  | none =>
    have : Mo.wr f S = .bad := by
      show (match f S with | some S' => Rs.ok () S' | none => .bad) = _
      rw [e]
    rw [this] at h
    exact False.elim h
def rPut : V → V → V → Hp → (Hp → Prop) → Prop := fun o i v H Q => rSetL o i v H Q ∨ ∃ a H', o = .ref a ∧ DPut H a i v H' ∧ Q H'
theorem set_put (hu : X.A.units + 1 < cLine) : PSet X rPut := by
  intro pins s σ H o i v ov iv u Q I ro ri rv h
  rcases h with h | ⟨a, H', rfl, g, q⟩
  · exact set_list pins s σ H o i v ov iv u Q I ro ri rv h
  · cases ro
    exact d_setItem hu I g ri rv fun s' I' => ⟨H', I', q⟩
theorem putO_of {K : PySem.W.Frag} {φ : Fi} {H : Hp} {S S' : Sto} {o i v : Dt} {ov iv vv : V} {Q : Hp → Prop} (s : RepS K φ S H) (ro : Rep K φ H o ov) (ri : Rep K φ H i iv) (rv : Rep K φ H v vv) (h : putO o i v S = some S')
    (k : ∀ H', Ext φ H φ H' → RepS K φ S' H' → Q H') : rPut ov iv vv H Q := by
  cases o with
  | obj n =>
    obtain ⟨a, rfl, ha⟩ := ro
    have h : (match S[n]? with
      | some (.lst xs) => i.asInt.bind fun k => (ixN xs.length k).map fun j => S.set n (.lst (xs.set j v))
      | some (.dK ks xs) => i.key.bind fun k => if ks.length < cap then some (S.set n (.dK (dput ks xs k v).1 (dput ks xs k v).2)) else none
      | none => none) = some S' := h
    have m : a ∈ φ.st := List.mem_of_getElem? ha
    cases q : S[n]? with
    | none => rw [q] at h; cases h
    | some ob =>
      rw [q] at h
      cases ob with
      | lst xs =>
        have h : (i.asInt.bind fun k => (ixN xs.length k).map fun j => S.set n (.lst (xs.set j v))) = some S' := h
        obtain ⟨vs, e1, e2⟩ := s.ob n a _ ha q
        cases z : i.asInt with
        | none => rw [z] at h; cases h
        | some k' =>
          rw [z] at h
          have h : ((ixN xs.length k').map fun j => S.set n (.lst (xs.set j v))) = some S' := h
          cases z2 : ixN xs.length k' with
          | none => rw [z2] at h; cases h
          | some j =>
            rw [z2] at h; cases h
            refine .inl ⟨a, vs, k', j, rfl, ri.asInt z, e1, by rw [← e2.length]; exact z2, k _ (Ext.put s m) (s.put ha ⟨_, upd_same, ?_⟩)⟩
            exact Reps.mono (Ext.put s m) _ _ (Reps.setAt rv j e2)
      | dK ks xs =>
        have h : (i.key.bind fun k => if ks.length < cap then some (S.set n (.dK (dput ks xs k v).1 (dput ks xs k v).2)) else none) = some S' := h
        obtain ⟨kvs, e1, e2, e3⟩ := s.ob n a _ ha q
        cases z : i.key with
        | none => rw [z] at h; cases h
        | some k' =>
          rw [z] at h
          obtain ⟨hl, rfl⟩ := ifSome h
          obtain rfl := ri.key z
          subst e2
          obtain ⟨p1, p2⟩ := dput_of (k := k') rv e3
          refine .inr ⟨a, _, rfl, DPut.k e1 ?_, k _ (Ext.put s m) (s.put ha ⟨_, upd_same, p1, Reps.mono (Ext.put s m) _ _ p2⟩)⟩
          rw [List.length_map] at hl
          rw [sizeLine_eq]; unfold cap at hl; omega
  | _ => exact absurd (show (none : Option Sto) = some S' from h) (fun z => nomatch z)
def mPut (mo mi mv : Nv → Mo Dt) : Nv → Mo Fl := fun ρ => mv ρ >>= fun v => mo ρ >>= fun o => mi ρ >>= fun i => Mo.wr (putO o i v) >>= fun _ => Mo.ret (.nx ρ)
theorem sm_put {o i e : Expr} {p' : Pos} {mo mi mv : Nv → Mo Dt} (hu : X.A.units + 1 < cLine) (ho : PEm cl W X o mo) (hi : PEm cl W X i mi) (he : PEm cl W X e mv)
    (ha : ∀ v, assign (.Subscript o i p') X.env v = (do
      let ov ← holding [v] (eval o X.env)
      let iv ← holding [v, ov] (eval i X.env)
      standAt p'
      holding [v, ov, iv] (setItem ov iv v)
      release [v, ov, iv] []) := by intro _; rfl)
    (hs : swapsWithSole [.Subscript o i p'] e pos.line X.env = pure false := by rfl) (hw : swappedStores [.Subscript o i p'] e X.env = pure none := by rfl)
    (h1 : (assignEach [.Subscript o i p'] X.env).map (·.2) = [assign (.Subscript o i p') X.env] := by rfl) : PSm cl W X (.Assign [.Subscript o i p'] e pos) (mPut mo mi mv) := PS_imp (ps_asg he (pg_sub ho hi (set_put hu) ha) hs hw h1) fun D σ H h => by
  obtain ⟨φ, ρ, S, er, sr, h⟩ := h
  refine (tS.ex (f := fun v ρ => mo ρ >>= fun o => mi ρ >>= fun i => Mo.wr (putO o i v) >>= fun _ => Mo.ret (Fl.nx ρ)) er sr h).imp fun v H1 ⟨φ1, S1, dv, x1, e1, s1, r1, p⟩ => ?_
  refine (tS.ex (f := fun o ρ => mi ρ >>= fun i => Mo.wr (putO o i dv) >>= fun _ => Mo.ret (Fl.nx ρ)) e1 s1 p).imp fun ov H2 ⟨φ2, S2, do', x2, e2, s2, r2, p2⟩ => ?_
  refine (tS.ex (f := fun i ρ => Mo.wr (putO do' i dv) >>= fun _ => Mo.ret (Fl.nx ρ)) e2 s2 p2).imp fun iv H3 ⟨φ3, S3, di, x3, e3, s3, r3, p3⟩ => ?_
  obtain ⟨S4, h4, q4⟩ := p3.bnd.wr
  exact putO_of s3 (Rep.mono x3 _ _ r2) r3 (Rep.mono x3 _ _ (Rep.mono x2 _ _ r1)) h4 fun H4 x4 s4 => (q4 φ3 H4 x4 s4).ok s4 _ (e3.mono x4)
/-! ### xs.append(e) -/
def Dt.objL (d : Dt) (S : Sto) : Option Unit := match d with
  | .obj n => match S[n]? with
    | some (.lst _) => some ()
    | _ => none
  | _ => none
theorem Rep.objL {K φ S H d v} (s : RepS K φ S H) (r : Rep K φ H d v) (h : d.objL S = some ()) : ∃ n a vs xs, d = .obj n ∧ v = .ref a ∧ φ.st[n]? = some a ∧ S[n]? = some (.lst xs) ∧ H a = some (.lst vs) ∧ Reps K φ H xs vs := by
  cases d with
  | obj n =>
    obtain ⟨a, rfl, e⟩ := r
    have h : (match S[n]? with | some (.lst _) => some () | _ => none) = some () := h
    cases q : S[n]? with
    | none => rw [q] at h; cases h
    | some o =>
      rw [q] at h
      cases o with
      | lst xs =>
        obtain ⟨vs, e1, e2⟩ := s.ob n a _ e q
        exact ⟨n, a, vs, xs, rfl, rfl, e, q, e1, e2⟩
      | dK ks xs => cases h
  | _ => exact absurd (show (none : Option Unit) = some () from h) (fun z => nomatch z)
def appO (o : Dt) (ds : List Dt) (S : Sto) : Option Sto := match ds, o with
  | [v], .obj n => match S[n]? with
    | some (.lst xs) => if xs.length < cap then some (S.set n (.lst (xs ++ [v]))) else none
    | _ => none
  | _, _ => none
theorem appO_of {o : Dt} {ds : List Dt} {S S' : Sto} (h : appO o ds S = some S') : ∃ v n xs, ds = [v] ∧ o = .obj n ∧ S[n]? = some (.lst xs) ∧ xs.length < cap ∧ S' = S.set n (.lst (xs ++ [v])) := by
  match ds, o, h with
  | [v], .obj n, h =>
    have h : (match S[n]? with | some (.lst xs) => if xs.length < cap then some (S.set n (.lst (xs ++ [v]))) else none | _ => none) = some S' := h
    cases q : S[n]? with
    | none => rw [q] at h; cases h
    | some ob =>
      rw [q] at h
      cases ob with
      | lst xs =>
        obtain ⟨h1, h2⟩ := ifSome h
        exact ⟨v, n, xs, rfl, rfl, q, h1, h2.symm⟩
      | dK ks xs => cases h
def mApp (mo : Nv → Mo Dt) (ms : Nv → Mo (List Dt)) : Nv → Mo Dt := fun ρ => mo ρ >>= fun o => Mo.rd o.objL >>= fun _ => ms ρ >>= fun ds => Mo.wr (appO o ds) >>= fun _ => Mo.ret .non
theorem em_app {o e : Expr} {apos cpos : Pos} {mo : Nv → Mo Dt} {ms : Nv → Mo (List Dt)} (ho : PEm cl W X o mo) (hv : PAm cl W X [e] ms)
    (hbase : attributeBase o "append" X.env (eval o X.env) = eval o X.env := by rfl)
    (hfew : ((backTo cpos (starEach [e] X.env)).all (fun x => !x.1) && (backToKw cpos (keywordEach [] X.env)).all (fun x => x.1.isSome)
      && decide ([e].length + ([] : List Keyword).length + (if ([] : List Keyword).isEmpty then 0 else 1) < 30)) = true := by rfl)
    (hline : (apos.endLine == cpos.line) = true := by rfl) (hs : starEach [e] X.env = (false, eval e X.env) :: starEach [] X.env := by rfl) (hplain : (backTo cpos (starEach [] X.env)).any (·.1) = false := by rfl) :
    PEm cl W X (.Call (.Attribute o "append" apos) [e] [] cpos) (mApp mo ms) := by
  refine PE_imp (pe_bm PySem.F.plainAttrs_list PySem.F.slot_list_append PySem.F.type_list_append mt_append ho hv hbase hfew hline hs hplain) fun σ H Q h => ?_
  obtain ⟨φ, ρ, S, er, sr, h⟩ := h
  refine (tE.b1 (f := fun o ρ => Mo.rd o.objL >>= fun _ => ms ρ >>= fun ds => Mo.wr (appO o ds) >>= fun _ => Mo.ret Dt.non) er sr h).imp fun ov H1 ⟨φ1, S1, d, x1, e1, s1, r1, p⟩ => ?_
  obtain ⟨_, hd, p1⟩ := p.bnd.rd
  have p1 := p1 φ1 H1 (Ext.refl _ _) s1
  obtain ⟨n, a, vs, xs, rfl, rfl, f1, f2, f3, f4⟩ := Rep.objL s1 r1 hd
  refine ⟨.inl ⟨rfl, vs, .inl (.inl f3)⟩, ?_⟩
  refine (tA.b1 (f := fun ds _ => Mo.wr (appO (.obj n) ds) >>= fun _ => Mo.ret Dt.non) e1 s1 p1).imp fun us H2 ⟨φ2, S2, ds, x2, e2, s2, r2, p2⟩ => ?_
  obtain ⟨S3, h3, p3⟩ := p2.bnd.wr
  obtain ⟨v, n', ys, rfl, hn, g2, g3, rfl⟩ := appO_of h3
  cases hn
  obtain ⟨u, rfl, a1⟩ := reps1 r2
  have f1' := x2.pre _ _ f1
  have m : a ∈ φ2.st := List.mem_of_getElem? f1'
  obtain ⟨ws, g4, g5⟩ := s2.ob n a _ f1' g2
  have xp := Ext.put (o := .lst (ws ++ [u])) s2 m
  have sp := s2.put (ho := .lst (ws ++ [u])) (o := .lst (ys ++ [v])) f1' ⟨_, upd_same, Reps.mono xp _ _ (Reps.app g5 ⟨u, [], rfl, a1, rfl⟩)⟩
  refine ⟨a, ws, u, rfl, rfl, g4, by rw [← g5.length, sizeLine_eq]; unfold cap at g3; omega, ?_⟩
  exact (p3 φ2 _ xp sp).ok sp _ rfl
end

/-! ### what is walked -/
structure Wk where
  items : List Dt
  gd : Sto → Prop
/-- an iterator goes over these -/
structure Walk (K : PySem.W.Frag) (J : It) (φ₀ : Fi) (H₀ : Hp) (it : Wk) : Prop where
  go : ∀ (i : Nat) φ S H, Kp φ₀ H₀ φ H → RepS K φ S H → it.gd S → i < it.items.length → J.go i H
  stop : ∀ (i : Nat) φ S H, Kp φ₀ H₀ φ H → RepS K φ S H → it.gd S → it.items.length ≤ i → J.stop i H
  yld : ∀ (i : Nat) φ S H x H' d, Kp φ₀ H₀ φ H → RepS K φ S H → it.gd S → it.items[i]? = some d → J.yld i H x H' → Ext φ H φ H' ∧ RepS K φ S H' ∧ Rep K φ H' d x
theorem Kp.trans {φ H φ1 H1 φ2 H2} (a : Kp φ H φ1 H1) (b : Kp φ1 H1 φ2 H2) : Kp φ H φ2 H2 :=
  ⟨fun c o h n => let ⟨x, y⟩ := a.keep c o h n; b.keep c o x y, fun n c h => b.pre n c (a.pre n c h)⟩
theorem Walk.on {K J φ₀ H₀ it φ H} (w : Walk K J φ₀ H₀ it) (e : Kp φ₀ H₀ φ H) : Walk K J φ H it :=
  ⟨fun i φ' S H' x => w.go i φ' S H' (e.trans x), fun i φ' S H' x => w.stop i φ' S H' (e.trans x), fun i φ' S H' y z d x => w.yld i φ' S H' y z d (e.trans x)⟩
def tI (K : PySem.W.Frag) (cl : Cl) (W : WX) (m : Nv → Mo Wk) : TI := fun σ H R => ∃ φ ρ S, RepE K φ H ρ σ ∧ RepS K φ S H ∧ post K cl (fun c d H' => W c d σ H') φ H (m ρ S) fun it _ φ' H' => ∀ J, Walk K J φ' H' it → R J H'
def PIm (cl : Cl) (W : WX) (X : Cx) (tg iter : Expr) (m : Nv → Mo Wk) : Prop := PI X tg iter (tI X.K cl W m)
theorem PI_imp {X : Cx} {tg e : Expr} {t t' : TI} (h : PI X tg e t) (f : ∀ σ H R, t' σ H R → t σ H R) : PI X tg e t' := ⟨fun pins s σ H R I q => h.run pins s σ H R I (f σ H R q)⟩
theorem walk_list {K : PySem.W.Frag} {φ : Fi} {H : Hp} {a : Addr} {ds : List Dt} (gd : Sto → Prop)
    (h : ∀ φ' S' H', Kp φ H φ' H' → RepS K φ' S' H' → gd S' → ∃ us, SqL K H' a us ∧ Reps K φ' H' ds us) : Walk K (Itl K a) φ H ⟨ds, gd⟩ := by
  refine ⟨fun i φ' S' H' x s g hi => ?_, fun i φ' S' H' x s g hi => ?_, fun i φ' S' H' y H2 d x s g hd hy => ?_⟩
  · obtain ⟨us, h1, h2⟩ := h φ' S' H' x s g
    have hi' : i < us.length := by rw [← h2.length]; exact hi
    exact ⟨us, us[i], h1, List.getElem?_eq_getElem hi'⟩
  · obtain ⟨us, h1, h2⟩ := h φ' S' H' x s g
    exact ⟨us, h1, by rw [← h2.length]; exact hi⟩
  · obtain ⟨us, h1, h2⟩ := h φ' S' H' x s g
    obtain ⟨rfl, f⟩ := hy
    obtain ⟨v, e1, e2⟩ := h2.get hd
    have := f us h1
    rw [e1] at this
    cases this
    exact ⟨Ext.refl _ _, s, e2⟩
theorem walk_tup {K : PySem.W.Frag} {φ : Fi} {H : Hp} {a : Addr} {ds : List Dt} {vs : List V} (t : TupAt K φ H a vs) (r : Reps K φ H ds vs) : Walk K (Itt K a) φ H ⟨ds, fun _ => True⟩ := by
  refine ⟨fun i φ' S' H' x s g hi => ?_, fun i φ' S' H' x s g hi => ?_, fun i φ' S' H' y H2 d x s g hd hy => ?_⟩
  · have hi' : i < vs.length := by rw [← r.length]; exact hi
    exact ⟨vs, vs[i], (x.tup t).seq, List.getElem?_eq_getElem hi'⟩
  · exact ⟨vs, (x.tup t).seq, by rw [← r.length]; exact hi⟩
  · obtain ⟨rfl, f⟩ := hy
    obtain ⟨v, e1, e2⟩ := r.get hd
    have := f vs (x.tup t).seq
    rw [e1] at this
    cases this
    exact ⟨Ext.refl _ _, s, Rep.monoK x _ _ e2⟩
theorem walk_rng {K : PySem.W.Frag} {φ : Fi} {H : Hp} (lo : Int) (n : Nat) : Walk K (Itr lo n) φ H ⟨(List.range n).map fun i => .int (lo + (i : Nat)), fun _ => True⟩ := by
  refine ⟨fun i φ' S' H' x s g hi => (show i < n by simpa using hi), fun i φ' S' H' x s g hi => (show n ≤ i by simpa using hi), fun i φ' S' H' y H2 d x s g hd hy => ?_⟩
  obtain ⟨rfl, rfl⟩ := hy
  rw [List.getElem?_map] at hd
  by_cases hi : i < n
  · rw [List.getElem?_range hi] at hd
    cases hd
    exact ⟨Ext.refl _ _, s, rfl⟩
  · rw [List.getElem?_eq_none (by simpa using hi)] at hd
    cases hd
def signsOf (z : Str) : List Dt := z.cps.toList.map fun c => .str ⟨#[c]⟩
theorem walk_str {K : PySem.W.Frag} {φ : Fi} {H : Hp} (z : Str) : Walk K (L2.Its z) φ H ⟨signsOf z, fun _ => True⟩ := by
  have hl : (signsOf z).length = z.cps.size := by simp [signsOf]
  refine ⟨fun i φ' S' H' x s g hi => (show i < z.cps.size by rw [← hl]; exact hi), fun i φ' S' H' x s g hi => (show z.cps.size ≤ i by rw [← hl]; exact hi), fun i φ' S' H' y H2 d x s g hd hy => ?_⟩
  obtain ⟨rfl, c, h1, rfl⟩ := hy
  have hd : (z.cps.toList.map fun c => Dt.str ⟨#[c]⟩)[i]? = some d := hd
  rw [List.getElem?_map, Array.getElem?_toList, h1] at hd
  cases hd
  exact ⟨Ext.refl _ _, s, rfl⟩
end ML

set_option Elab.async false
set_option linter.all false
set_option maxRecDepth 100000
set_option maxHeartbeats 1000000
/-! ML: what a for walks; for, while, comprehensions. -/
namespace ML
open PySem PySem.Spec L2
open PyProof.Rows hiding St

def anyGd : Sto → Prop := fun _ => True
def Dt.walk (d : Dt) (S : Sto) : Option Wk := match d with
  | .tup xs => some ⟨xs, anyGd⟩
  | .lst xs => some ⟨xs, anyGd⟩
  | .str z => some ⟨signsOf z, anyGd⟩
  | .scr ns => some ⟨ns.map Dt.int, anyGd⟩
  | .obj n => match S[n]? with
    | some (.lst xs) => some ⟨xs, fun S' => S'[n]? = some (.lst xs)⟩
    | _ => none
  | _ => none
def mWalk (m : Nv → Mo Dt) : Nv → Mo Wk := fun ρ => m ρ >>= fun d => Mo.rd d.walk
section
variable {cl : Cl} {W : WX} {X : Cx} {pos : Pos} {tg e : Expr}
theorem v_list {pins : List (Addr × Obj)} {σ : St} {H : Hp} {s : Shared} {R : It → Hp → Prop} {a : Addr} {vs : List V} {E : Value → Shared → Prop} (I : Inv X pins σ H s) (h : SqL X.K H a vs) (q : R (Itl X.K a) H) : wpAny (model X.prog X.w) X.A (pyIter (.ref a)) (PIE X pins σ tg R) E s := by
  obtain ⟨us, _, pl, _⟩ := I.list h
  refine wpAny_pyIter_list pl.isList ⟨s.heap.objs.size, [s.heap.objs.size], _, _, H, rfl, I.kept (t' := s.toks) fun b o z => Heap.get?_push_of_some _ z, turn_list a _, ⟨_, Heap.get?_push_size _ rfl, rfl, rfl⟩, fun b hb => ?_, q⟩
  obtain rfl := List.mem_singleton.mp hb
  exact I.fpOk (Nat.le_refl _) (I.hok.fresh (Nat.le_refl _))
theorem v_tup {pins : List (Addr × Obj)} {σ : St} {H : Hp} {s : Shared} {R : It → Hp → Prop} {a : Addr} {vs : List V} {E : Value → Shared → Prop} (I : Inv X pins σ H s) (h : SqT X.K H a vs) (q : R (Itt X.K a) H) : wpAny (model X.prog X.w) X.A (pyIter (.ref a)) (PIE X pins σ tg R) E s := by
  obtain ⟨us, _, pl, _⟩ := I.tuple h
  refine wpAny_pyIter_tuple (show s.heap.IsTuple a us.toArray from pl) ⟨s.heap.objs.size, [s.heap.objs.size], _, _, H, rfl, I.kept (t' := s.toks) fun b o z => Heap.get?_push_of_some _ z, turn_tuple a _, ⟨_, Heap.get?_push_size _ rfl, rfl, rfl⟩, fun b hb => ?_, q⟩
  obtain rfl := List.mem_singleton.mp hb
  exact I.fpOk (Nat.le_refl _) (I.hok.fresh (Nat.le_refl _))
theorem im_any {m : Nv → Mo Dt} (he : PEm cl W X e m) : PIm cl W X tg e (mWalk m) := ⟨fun pins s σ H R I h => by
  obtain ⟨φ, ρ, S, er, sr, h⟩ := h
  refine thn (he.run pins s σ H _ I (tE.b1 (f := fun d _ => Mo.rd d.walk) er sr h)) fun v s1 ⟨x, H1, I1, rx, φ1, S1, d, x1, e1, s1', r1, p⟩ => ?_
  obtain ⟨it, hit, q⟩ := p.rd
  have q := q φ1 H1 (Ext.refl _ _) s1'
  cases d with
  | tup xs =>
    cases hit
    obtain ⟨a, vs, rfl, t, z⟩ := r1
    cases rx
    exact v_tup I1 t.seq (q _ (walk_tup t z))
  | lst xs =>
    cases hit
    obtain ⟨a, vs, rfl, t, z⟩ := r1
    cases rx
    exact v_list I1 t.seq (q _ (walk_list _ fun φ' S' H' x s' _ => ⟨vs, .inl (.inl (x.keep _ _ t.2 t.1).1), Reps.monoK x _ _ z⟩))
  | scr ns =>
    cases hit
    obtain ⟨a, rfl, t⟩ := r1
    cases rx
    exact v_list I1 t.seq (q _ (walk_list _ fun φ' S' H' x s' _ => ⟨_, (x.scr t).seq, Reps.of_ints ns⟩))
  | str z =>
    cases hit
    obtain rfl : x = .str z := r1
    obtain ⟨t, rfl⟩ := rx
    have q2 := q _ (walk_str z)
    cases ha : z.cps.all (· < 128)
    · exact wpAny_pyIter_wide ha (pi_one (tk := s1.toks) I1 _ (turn_str _ z t "str_iterator" (.inr rfl)) ⟨_, Heap.get?_push_size _ rfl, rfl, rfl⟩ q2)
    · exact wpAny_pyIter_ascii ha (pi_one (tk := s1.toks) I1 _ (turn_str _ z t "str_ascii_iterator" (.inl rfl)) ⟨_, Heap.get?_push_size _ rfl, rfl, rfl⟩ q2)
  | obj n =>
    obtain ⟨a, rfl, ha⟩ := r1
    have hit : (match S1[n]? with | some (.lst xs) => some (Wk.mk xs fun S' => S'[n]? = some (.lst xs)) | _ => none) = some it := hit
    cases w : S1[n]? with
    | none => rw [w] at hit; cases hit
    | some o =>
      rw [w] at hit
      cases o with
      | dK ks xs => cases hit
      | lst xs =>
        cases hit
        obtain ⟨vs, e2, e3⟩ := s1'.ob n a _ ha w
        cases rx
        refine v_list I1 (.inl (.inl e2)) (q _ (walk_list _ fun φ' S' H' x s' g => ?_))
        obtain ⟨us, f1, f2⟩ := s'.ob n a _ (x.pre _ _ ha) g
        exact ⟨us, .inl (.inl f1), f2⟩
  | _ => exact absurd (show (none : Option Wk) = some it from hit) (fun z => nomatch z)⟩
def small62 (i : Int) : Bool := decide (-(2 ^ 62) ≤ i) && decide (i < 2 ^ 62)
def rng (lo : Int) (n : Nat) : Wk := ⟨(List.range n).map fun i => .int (lo + (i : Nat)), anyGd⟩
def mRng1 (ms : Nv → Mo (List Dt)) : Nv → Mo Wk := fun ρ => ms ρ >>= fun ds => Mo.rd fun _ => match ds with
  | [.int j] => if small62 j = true then some (rng 0 j.toNat) else none
  | _ => none
def mRng2 (ms : Nv → Mo (List Dt)) : Nv → Mo Wk := fun ρ => ms ρ >>= fun ds => Mo.rd fun _ => match ds with
  | [.int i, .int j] => if small62 i = true ∧ small62 j = true then some (rng i (j - i).toNat) else none
  | _ => none
theorem im_rng1 {a : Expr} {ms : Nv → Mo (List Dt)} {p : Pos} (hm : X.mg "range" = none) (ha : PAm cl W X [a] ms) (hg : Gl X "range" := by rfl) (hs : starEach [a] X.env = [(false, eval a X.env)] := by rfl) : PIm cl W X tg (.Call (.Name "range" p) [a] [] pos) (mRng1 ms) :=
  PI_imp (pi_range1 hg hm ha hs) fun σ H R h => by
    obtain ⟨φ, ρ, S, er, sr, h⟩ := h
    refine (tA.b1 (f := fun ds _ => Mo.rd fun _ => match ds with
      | [.int j] => if small62 j = true then some (rng 0 j.toNat) else none
      | _ => none) er sr h).imp fun vs H1 ⟨φ1, S1, ds, x1, e1, s1, r1, p⟩ => ?_
    obtain ⟨it, hit, q⟩ := p.rd
    match ds, hit, r1 with
    | [.int j], hit, r1 =>
      obtain ⟨hj, rfl⟩ := ifSome hit
      obtain ⟨v, rfl, a1⟩ := reps1 r1
      obtain rfl : v = .int j := a1
      unfold small62 at hj
      simp only [Bool.and_eq_true, decide_eq_true_eq] at hj
      exact ⟨j, rfl, hj.1, hj.2, q φ1 H1 (Ext.refl _ _) s1 _ (walk_rng 0 j.toNat)⟩
theorem im_rng2 {a b : Expr} {ms : Nv → Mo (List Dt)} {p : Pos} (hm : X.mg "range" = none) (ha : PAm cl W X [a, b] ms) (hg : Gl X "range" := by rfl) (hs : starEach [a, b] X.env = [(false, eval a X.env), (false, eval b X.env)] := by rfl) (hs2 : starEach [b] X.env = [(false, eval b X.env)] := by rfl) : PIm cl W X tg (.Call (.Name "range" p) [a, b] [] pos) (mRng2 ms) :=
  PI_imp (pi_range2 hg hm ha hs hs2) fun σ H R h => by
    obtain ⟨φ, ρ, S, er, sr, h⟩ := h
    refine (tA.b1 (f := fun ds _ => Mo.rd fun _ => match ds with
      | [.int i, .int j] => if small62 i = true ∧ small62 j = true then some (rng i (j - i).toNat) else none
      | _ => none) er sr h).imp fun vs H1 ⟨φ1, S1, ds, x1, e1, s1, r1, p⟩ => ?_
    obtain ⟨it, hit, q⟩ := p.rd
    match ds, hit, r1 with
    | [.int i, .int j], hit, r1 =>
      obtain ⟨⟨hi, hj⟩, rfl⟩ := ifSome hit
      obtain ⟨v, u, rfl, a1, a2⟩ := reps2 r1
      obtain rfl : v = .int i := a1
      obtain rfl : u = .int j := a2
      unfold small62 at hi hj
      simp only [Bool.and_eq_true, decide_eq_true_eq] at hi hj
      exact ⟨i, j, rfl, ⟨hi.1, hi.2, hj.1, hj.2⟩, q φ1 H1 (Ext.refl _ _) s1 _ (walk_rng i _)⟩
end

/-! ### for -/
theorem mo_bnd_bad {α β : Type} {x : Mo α} {f : α → Mo β} {S : Sto} (h : x S = .bad) : (x >>= f) S = .bad := by
  show (match x S with | .ok a S' => f a S' | .exc c d S' => .exc c d S' | .bad => .bad) = _
  rw [h]
open Classical in
noncomputable def Mo.need (p : Sto → Prop) : Mo Unit := fun S => if p S then .ok () S else .bad
theorem need_any {S : Sto} : Mo.need anyGd S = .ok () S := if_pos trivial
theorem need_ok {p : Sto → Prop} {S : Sto} (h : p S) : Mo.need p S = .ok () S := if_pos h
theorem post.need {K : PySem.W.Frag} {cl : Cl} {W : Value → Option Addr → Hp → Prop} {φ : Fi} {H : Hp} {α : Type} {p : Sto → Prop} {S : Sto} {f : Mo α} {k : α → Sto → Fi → Hp → Prop} (h : post K cl W φ H ((Mo.need p >>= fun _ => f) S) k) : p S ∧ post K cl W φ H (f S) k := by
  by_cases q : p S
  · rw [bnd_ok (need_ok q)] at h
    exact ⟨q, h⟩
  · have e : (Mo.need p >>= fun _ => f) S = .bad := mo_bnd_bad (show Mo.need p S = .bad from if_neg q)
    rw [e] at h
    exact False.elim h
theorem post.rdx {K : PySem.W.Frag} {cl : Cl} {W : Value → Option Addr → Hp → Prop} {φ : Fi} {H : Hp} {α β : Type} {g : Sto → Option β} {S : Sto} {f : β → Mo α} {k : α → Sto → Fi → Hp → Prop} (h : post K cl W φ H ((Mo.rd g >>= f) S) k) : ∃ b, g S = some b ∧ post K cl W φ H (f b S) k := by
  cases q : g S with
  | some b =>
    rw [bnd_ok (Mo.rd_ok q)] at h
    exact ⟨b, rfl, h⟩
  | none =>
    obtain ⟨b, e, _⟩ := h.bnd.rd
    rw [q] at e; cases e
noncomputable def forGo (gd : Sto → Prop) (t : Tg) (mb : Nv → Mo Fl) : List Dt → Nv → Mo Fl
  | [], ρ => Mo.need gd >>= fun _ => Mo.ret (.nx ρ)
  | d :: r, ρ => Mo.need gd >>= fun _ => (Mo.rd fun _ => t d ρ) >>= fun ρ1 => mb ρ1 >>= fun f => match f with
    | .nx ρ2 => forGo gd t mb r ρ2
    | .ct ρ2 => forGo gd t mb r ρ2
    | .bk ρ2 => Mo.ret (.nx ρ2)
    | .rt d => Mo.ret (.rt d)
noncomputable def mFor (mi : Nv → Mo Wk) (t : Tg) (mb : Nv → Mo Fl) : Nv → Mo Fl := fun ρ => mi ρ >>= fun it => forGo it.gd t mb it.items ρ
section
variable {cl : Cl} {W : WX} {X : Cx} {pos : Pos}
theorem sm_for {tg iter : Expr} {body : List Stmt} {sl : List Nat} {mi : Nv → Mo Wk} {t : Tg} {mb : Nv → Mo Fl} (hp : PassesOwn (model X.prog X.w) X.A X.env X.xe) (hc : X.calm = true) (hi : PIm cl W X tg iter mi) (hg : PGm X tg sl t) (hb : PSsm cl W X body mb)
    (hs : ∀ x, foldedSetIterable iter X.env x = pure x := by intro _; rfl) : PSm cl W X (.For tg iter body [] pos) (mFor mi t mb) := PS_imp (ps_for hp hc hi hg hb hs) fun D σ H h => by
  obtain ⟨φ, ρ, S, er, sr, h⟩ := h
  refine ⟨φ, ρ, S, er, sr, (h.bnd.fl fun _ _ _ z => z σ).imp fun it S1 φ1 H1 x1 s1 p J w => ?_⟩
  refine ⟨fun i m σ' H' => m + i = it.items.length ∧ ∃ φ' ρ' S', Ext φ1 H1 φ' H' ∧ RepE X.K φ' H' ρ' σ' ∧ RepS X.K φ' S' H' ∧ post X.K cl (fun c d H' => ∀ σ', W c d σ' H') φ' H' (forGo it.gd t mb (it.items.drop i) ρ' S') fun f _ φ' H' => endsOf X.K D f φ' H',
    ⟨it.items.length, rfl, φ1, ρ, S1, Ext.refl _ _, er.mono x1, s1, p⟩, ?_⟩
  rintro i m σ' H' ⟨hm, φ', ρ', S', x', e', s', p'⟩
  by_cases hi' : i < it.items.length
  · have hd := List.getElem?_eq_getElem hi'
    rw [List.drop_eq_getElem_cons hi'] at p'
    generalize it.items[i] = d at hd p'
    obtain ⟨g, p'⟩ := p'.need
    obtain ⟨ρ1, ht, p'⟩ := p'.rdx
    refine .inr ⟨w.go i φ' S' H' x'.kp s' g hi', fun σ2 H2 => ∃ φ2 ρ2 S2, Ext φ1 H1 φ2 H2 ∧ RepE X.K φ2 H2 ρ2 σ2 ∧ RepS X.K φ2 S2 H2 ∧ post X.K cl (fun c d H' => ∀ σ', W c d σ' H') φ2 H2 (forGo it.gd t mb (it.items.drop (i + 1)) ρ2 S2) fun f _ φ' H' => endsOf X.K D f φ' H', fun σ2 H2 h2 => ⟨m - 1, by omega, by omega, h2⟩, fun v H2 hy => ?_⟩
    obtain ⟨x2, s2, r2⟩ := w.yld i φ' S' H' v H2 d x'.kp s' g hd hy
    refine ⟨φ', ρ', d, ρ1, e'.mono x2, r2, ht, fun σ3 e3 _ => ⟨φ', ρ1, S', e3, s2, (p'.on x2).bnd.imp fun f S4 φ4 H4 x4 s4 p4 => ?_⟩⟩
    have x5 := (x'.trans x2).trans x4
    cases f with
    | nx ρ4 => exact fun σ4 e4 => ⟨φ4, ρ4, S4, x5, e4, s4, p4⟩
    | ct ρ4 => exact fun σ4 e4 => ⟨φ4, ρ4, S4, x5, e4, s4, p4⟩
    | bk ρ4 => exact fun σ4 e4 => p4.ok s4 σ4 e4
    | rt d4 => exact fun v4 r4 => p4.ok s4 v4 r4
  · rw [List.drop_eq_nil_of_le (by omega)] at p'
    obtain ⟨g, p'⟩ := p'.need
    exact .inl ⟨w.stop i φ' S' H' x'.kp s' g (by omega), p'.ok s' σ' e'⟩
end
/-! ### while -/
def whileGo (mt : Nv → Mo Bool) (mb : Nv → Mo Fl) : Nat → Nv → Mo Fl
  | 0, _ => Mo.no
  | n + 1, ρ => mt ρ >>= fun b => if b = true then mb ρ >>= fun f => match f with
      | .nx ρ2 => whileGo mt mb n ρ2
      | .ct ρ2 => whileGo mt mb n ρ2
      | .bk ρ2 => Mo.ret (.nx ρ2)
      | .rt d => Mo.ret (.rt d)
    else Mo.ret (.nx ρ)
open Classical in
noncomputable def mWhile (mt : Nv → Mo Bool) (mb : Nv → Mo Fl) : Nv → Mo Fl := fun ρ S => if h : ∃ n, whileGo mt mb n ρ S ≠ .bad then whileGo mt mb (Classical.choose h) ρ S else .bad
theorem whileGo_mono {mt : Nv → Mo Bool} {mb : Nv → Mo Fl} : ∀ (n : Nat) (ρ : Nv) (S : Sto), whileGo mt mb n ρ S ≠ .bad → ∀ k, n ≤ k → whileGo mt mb k ρ S = whileGo mt mb n ρ S
  | 0, ρ, S, h, k, hk => absurd rfl h
  | n + 1, ρ, S, h, 0, hk => by omega
  | n + 1, ρ, S, h, k + 1, hk => by
    unfold whileGo at h ⊢
    cases q : mt ρ S with
    | bad => rw [mo_bnd_bad q, mo_bnd_bad q]
    | exc c d S1 => rw [bnd_exc q, bnd_exc q]
    | ok b S1 =>
      rw [bnd_ok q] at h
      rw [bnd_ok q, bnd_ok q]
      cases b with
      | false => rfl
      | true =>
        rw [if_pos rfl] at h
        rw [if_pos rfl, if_pos rfl]
        cases q2 : mb ρ S1 with
        | bad => rw [mo_bnd_bad q2, mo_bnd_bad q2]
        | exc c d S2 => rw [bnd_exc q2, bnd_exc q2]
        | ok f S2 =>
          rw [bnd_ok q2] at h
          rw [bnd_ok q2, bnd_ok q2]
          cases f with
          | nx ρ2 => exact whileGo_mono n ρ2 S2 h k (by omega)
          | ct ρ2 => exact whileGo_mono n ρ2 S2 h k (by omega)
          | bk ρ2 => rfl
          | rt d => rfl
theorem mWhile_of {mt : Nv → Mo Bool} {mb : Nv → Mo Fl} {n : Nat} {ρ : Nv} {S : Sto} {r : Rs Fl} (h : whileGo mt mb n ρ S = r) (hr : r ≠ .bad) : mWhile mt mb ρ S = r := by
  have ex : ∃ n, whileGo mt mb n ρ S ≠ .bad := ⟨n, by rw [h]; exact hr⟩
  unfold mWhile
  rw [dif_pos ex]
  have hc := Classical.choose_spec ex
  rcases Nat.le_total (Classical.choose ex) n with l | l
  · rw [← whileGo_mono _ ρ S hc n l, h]
  · rw [whileGo_mono n ρ S (by rw [h]; exact hr) _ l, h]
section
variable {cl : Cl} {W : WX} {X : Cx} {pos : Pos}
theorem sm_while {c : Expr} {body : List Stmt} {mt : Nv → Mo Bool} {mb : Nv → Mo Fl} (hp : PassesOwn (model X.prog X.w) X.A X.env X.xe) (hc : PTm cl W X c mt) (hb : PSsm cl W X body mb) : PSm cl W X (.While c body [] pos) (mWhile mt mb) := PS_imp (ps_while hp hc hb) fun D σ H h => by
  obtain ⟨φ, ρ, S, er, sr, h⟩ := h
  by_cases ex : ∃ n, whileGo mt mb n ρ S ≠ .bad
  · obtain ⟨n, hn⟩ := ex
    rw [mWhile_of (n := n) rfl hn] at h
    refine ⟨fun m σ' H' => ∃ φ' ρ' S', RepE X.K φ' H' ρ' σ' ∧ RepS X.K φ' S' H' ∧ post X.K cl (fun c d H' => ∀ σ', W c d σ' H') φ' H' (whileGo mt mb m ρ' S') fun f _ φ' H' => endsOf X.K D f φ' H', ⟨n, φ, ρ, S, er, sr, h⟩, ?_⟩
    rintro m σ' H' ⟨φ', ρ', S', e', s', p'⟩
    cases m with
    | zero => exact False.elim p'
    | succ m =>
      unfold whileGo at p'
      refine (tS.tt (f := fun b ρ => if b = true then mb ρ >>= fun f => match f with
          | .nx ρ2 => whileGo mt mb m ρ2
          | .ct ρ2 => whileGo mt mb m ρ2
          | .bk ρ2 => Mo.ret (.nx ρ2)
          | .rt d => Mo.ret (.rt d)
        else Mo.ret (Fl.nx ρ)) e' s' p').imp fun b H1 ⟨φ1, S1, x1, e1, s1, p1⟩ => ?_
      cases b with
      | true =>
        rw [if_pos rfl] at p1 ⊢
        refine ⟨fun σ2 H2 => ∃ φ' ρ' S', RepE X.K φ' H2 ρ' σ2 ∧ RepS X.K φ' S' H2 ∧ post X.K cl (fun c d H' => ∀ σ', W c d σ' H') φ' H2 (whileGo mt mb m ρ' S') fun f _ φ' H' => endsOf X.K D f φ' H', fun σ2 H2 h2 => ⟨m, Nat.lt_succ_self m, h2⟩, φ1, ρ', S1, e1, s1, p1.bnd.imp fun f S2 φ2 H2 x2 s2 p2 => ?_⟩
        cases f with
        | nx ρ4 => exact fun σ4 e4 => ⟨φ2, ρ4, S2, e4, s2, p2⟩
        | ct ρ4 => exact fun σ4 e4 => ⟨φ2, ρ4, S2, e4, s2, p2⟩
        | bk ρ4 => exact fun σ4 e4 => p2.ok s2 σ4 e4
        | rt d4 => exact fun v4 r4 => p2.ok s2 v4 r4
      | false =>
        rw [if_neg Bool.false_ne_true] at p1 ⊢
        exact p1.ok s1 σ' e1
  · have e : mWhile mt mb ρ S = .bad := by
      unfold mWhile
      rw [dif_neg ex]
    rw [e] at h
    exact False.elim h
end
end ML

set_option Elab.async false
set_option linter.all false
set_option maxRecDepth 100000
set_option maxHeartbeats 1000000
/-! ML: list comprehensions. -/
namespace ML
open PySem PySem.Spec L2
open PyProof.Rows hiding St

theorem bnd_assoc {α β γ : Type} (x : Mo α) (f : α → Mo β) (g : β → Mo γ) : (x >>= f) >>= g = x >>= fun a => f a >>= g := by
  funext S
  show (match (match x S with | .ok a S' => f a S' | .exc c d S' => .exc c d S' | .bad => .bad) with | .ok a S' => g a S' | .exc c d S' => .exc c d S' | .bad => .bad) = match x S with | .ok a S' => (f a >>= g) S' | .exc c d S' => .exc c d S' | .bad => .bad
  cases x S <;> rfl
theorem wipe_wipe (σ : St) (vs : List Nat) : wipe (wipe σ vs) vs = wipe σ vs := by
  refine List.ext_getElem? fun j => ?_
  rw [wipe_get, wipe_length, wipe_get]
  by_cases q : j ∈ vs
  · rw [if_pos q, if_pos q]
  · rw [if_neg q]
/-- what may not raise -/
def Mo.nx {α : Type} (x : Mo α) : Mo α := fun S => match x S with
  | .exc _ _ _ => .bad
  | r => r
theorem nx_ok {α : Type} {x : Mo α} {S S' : Sto} {a : α} (h : x S = .ok a S') : Mo.nx x S = .ok a S' := by
  show (match x S with | .exc _ _ _ => Rs.bad | r => r) = _
  rw [h]
theorem nx_bad {α : Type} {x : Mo α} {S : Sto} (h : ∀ a S', x S ≠ .ok a S') : Mo.nx x S = .bad := by
  show (match x S with | .exc _ _ _ => Rs.bad | r => r) = _
  cases q : x S with
  | ok a S' => exact absurd q (h a S')
  | exc c d S' => rfl
  | bad => rfl
def nvW (ρ : Nv) : List Nat → Nv
  | [] => ρ
  | v :: vs => (nvW ρ vs).set v none
theorem repE_wipe {K φ H ρ σ} (e : RepE K φ H ρ σ) : ∀ vs : List Nat, RepE K φ H (nvW ρ vs) (wipe σ vs)
  | [] => e
  | v :: vs => by
    have ih := repE_wipe e vs
    unfold nvW wipe
    refine ⟨by simpa using ih.len, fun i d z => ?_⟩
    by_cases hi : v = i
    · subst hi
      by_cases hl : v < (nvW ρ vs).length
      · rw [List.getElem?_set_self hl] at z; cases z
      · rw [List.getElem?_eq_none (by simpa using hl)] at z; cases z
    · rw [List.getElem?_set_ne hi] at z
      obtain ⟨u, a, b⟩ := ih.at_ i d z
      exact ⟨u, by rw [List.getElem?_set_ne hi]; exact a, b⟩
noncomputable def lcGo (gd : Sto → Prop) (t : Tg) (mt : Nv → Mo Bool) (me : Nv → Mo Dt) (ρ : Nv) : List Dt → List Dt → Mo (List Dt)
  | ds, [] => Mo.need gd >>= fun _ => Mo.ret ds
  | ds, d :: r => Mo.need gd >>= fun _ => (Mo.rd fun _ => t d ρ) >>= fun ρ1 => Mo.nx (mt ρ1) >>= fun b => if b = true then Mo.nx (me ρ1) >>= fun y => lcGo gd t mt me ρ (ds ++ [y]) r else lcGo gd t mt me ρ ds r
noncomputable def mLc (mi : Nv → Mo Wk) (own : List Nat) (t : Tg) (mt : Nv → Mo Bool) (me : Nv → Mo Dt) : Nv → Mo Dt := fun ρ => mi ρ >>= fun it => (Mo.rd fun _ => if it.items.length ≤ cap then some () else none) >>= fun _ => lcGo it.gd t mt me (nvW ρ own) [] it.items >>= fun ds => Mo.ret (.lst ds)
def mYes : Nv → Mo Bool := fun _ => Mo.ret true
abbrev W0 : WX := fun _ _ _ _ => False
/-- tests of a comprehension -/
def PTsm (cl : Cl) (X : Cx) (ifs : List Expr) (m : Nv → Mo Bool) : Prop := PTs X ifs (tT X.K cl W0 m)
section
variable {cl : Cl} {W : WX} {X : Cx}
theorem tsm_nil : PTsm cl X [] mYes := ⟨fun pins s σ H Q I h => by
  obtain ⟨φ, ρ, S, e, s', h⟩ := h
  exact pts_nil.run pins s σ H Q I (h.ok s')⟩
theorem tsm_one {c : Expr} {m : Nv → Mo Bool} (h : PTm cl W0 X c m) : PTsm cl X [c] m := pts_one h
end
/-- without what is hidden last -/
def Fi.un (φ : Fi) (hid : List Addr) : Fi := ⟨φ.st, hid⟩
theorem Kp.unhid {φ : Fi} {H : Hp} {D : Addr} {hid : List Addr} (h : φ.hid = D :: hid) : Kp φ H (φ.un hid) H :=
  ⟨fun a o e n => ⟨e, n.1, fun z => n.2 (by rw [h]; exact List.mem_cons_of_mem _ z)⟩, fun _ _ e => e⟩
theorem Kp.updHid {φ : Fi} {H : Hp} {D : Addr} {o : HO} (h : D ∈ φ.hid) : Kp φ H φ (upd H D o) :=
  ⟨fun a u e n => ⟨by rw [upd_ne fun z => n.2 (by rw [z]; exact h)]; exact e, n⟩, fun _ _ e => e⟩
theorem RepO.monoK {K φ H φ' H' a o} (e : Kp φ H φ' H') (k : H' a = H a) (h : RepO K φ H a o) : RepO K φ' H' a o := by
  cases o with
  | lst xs => obtain ⟨vs, x, y⟩ := h; exact ⟨vs, k.trans x, Reps.monoK e _ _ y⟩
  | dK ks xs => obtain ⟨vs, x, y, z⟩ := h; exact ⟨vs, k.trans x, y, Reps.monoK e _ _ z⟩
theorem RepE.monoK {K φ H φ' H' ρ σ} (h : RepE K φ H ρ σ) (e : Kp φ H φ' H') : RepE K φ' H' ρ σ :=
  ⟨h.len, fun i d z => let ⟨v, a, b⟩ := h.at_ i d z; ⟨v, a, Rep.monoK e d v b⟩⟩
theorem RepS.updHid {K φ S H D o} (s : RepS K φ S H) (h : D ∈ φ.hid) : RepS K φ S (upd H D o) :=
  ⟨s.len, s.nd, fun n a u e1 e2 => (s.ob n a u e1 e2).monoK (Kp.updHid h) (upd_ne fun z => (s.hs D h).1 (z ▸ List.mem_of_getElem? e1)), fun a m => ⟨(s.hs a m).1, by
    by_cases q : a = D
    · rw [q, upd_same]; exact fun z => nomatch z
    · rw [upd_ne q]; exact (s.hs a m).2⟩⟩
theorem RepS.unhid {K φ S H D hid} (s : RepS K φ S H) (h : φ.hid = D :: hid) : RepS K (φ.un hid) S H :=
  ⟨s.len, s.nd, fun n a u e1 e2 => (s.ob n a u e1 e2).monoK (Kp.unhid h) rfl, fun a m => s.hs a (by rw [h]; exact List.mem_cons_of_mem _ m)⟩
/-- an object outside of the store is hidden -/
theorem RepS.hide {K φ S H D o} (s : RepS K φ S H) (n : H D = none) : RepS K ⟨φ.st, D :: φ.hid⟩ S (upd H D o) ∧ Kp φ H ⟨φ.st, D :: φ.hid⟩ (upd H D o) := by
  have k : Kp φ H ⟨φ.st, D :: φ.hid⟩ (upd H D o) := ⟨fun a u e m => ⟨by rw [upd_ne (ne_of_none e n)]; exact e, m.1, fun z => (List.mem_cons.mp z).elim (fun q => by rw [q, n] at e; cases e) m.2⟩, fun _ _ e => e⟩
  refine ⟨⟨s.len, s.nd, fun i a u e1 e2 => (s.ob i a u e1 e2).monoK k (upd_ne fun z => (s.fresh n).1 (z ▸ List.mem_of_getElem? e1)), fun a m => ?_⟩, k⟩
  rcases List.mem_cons.mp m with q | q
  · rw [q, upd_same]
    exact ⟨(s.fresh n).1, fun z => nomatch z⟩
  · exact ⟨(s.hs a q).1, by rw [upd_ne (s.hne n q)]; exact (s.hs a q).2⟩
section
variable {cl : Cl} {W : WX} {X : Cx} {pos : Pos}
abbrev gR (K : PySem.W.Frag) (sl : List Nat) (t : Tg) : TG := fun v σ H Q => ∃ φ ρ d ρ', RepE K φ H ρ σ ∧ Rep K φ H d v ∧ t d ρ = some ρ' ∧ ∀ σ', RepE K φ H ρ' σ' → Only sl σ σ' → Q σ' H
theorem rdLc {K : PySem.W.Frag} {own sl : List Nat} {mi : Nv → Mo Wk} {t : Tg} {mt : Nv → Mo Bool} {me : Nv → Mo Dt} (hsl : ∀ i ∈ sl, i ∈ own) {σ : St} {H : Hp} {Q : VK} (h : tE K cl W (mLc mi own t mt me) σ H Q) :
    tLc (tI K cl W mi) (gR K sl t) (tT K cl W0 mt) (tE K cl W0 me) own σ H Q := by
  obtain ⟨φ, ρ, S, er, sr, h⟩ := h
  refine ⟨φ, ρ, S, er, sr, h.bnd.imp fun it S1 φ1 H1 x1 s1 p J w => ?_⟩
  obtain ⟨_, hz, p⟩ := p.rdx
  obtain ⟨hz, _⟩ := ifSome hz
  intro D nD
  have e1 := er.mono x1
  obtain ⟨sD, kD⟩ := s1.hide (o := .lst []) nD
  -- at turn i: the list at D is made so far
  refine ⟨fun i m H' => m + i = it.items.length ∧ ∃ φ' S' ds vs, φ'.hid = D :: φ1.hid ∧ Ext φ1 H1 (φ'.un φ1.hid) H' ∧ H' D = some (.lst vs) ∧ Reps K φ' H' ds vs ∧ ds.length ≤ i ∧ RepS K φ' S' H' ∧ RepE K φ' H' (nvW ρ own) (wipe σ own) ∧
      post K cl (fun c d H' => W c d σ H') φ1 H1 ((lcGo it.gd t mt me (nvW ρ own) ds (it.items.drop i) >>= fun ds => Mo.ret (Dt.lst ds)) S') fun d _ φ' H' => ∀ v, Rep K φ' H' d v → Q v H',
    ⟨it.items.length, rfl, ⟨φ1.st, D :: φ1.hid⟩, S1, [], [], rfl, ?_, upd_same, rfl, Nat.zero_le _, sD, repE_wipe (e1.monoK kD) _, p⟩, ?_⟩
  · exact ⟨fun a o z n => ⟨by rw [upd_ne (ne_of_none z nD)]; exact z, n⟩, fun _ _ z => z, rfl, fun a m => upd_ne (s1.hne nD m)⟩
  rintro i m H' ⟨hm, φ', S', ds, vs, hh, xe, hD, rv, hl, s', e', p'⟩
  have xw : ∀ {φ2 : Fi} {H2 : Hp}, Ext φ' H' φ2 H2 → Ext φ1 H1 (φ2.un φ1.hid) H2 := fun {φ2 H2} x2 =>
    ⟨fun a o z n => by
      obtain ⟨h1, h2⟩ := xe.keep a o z n
      have nd : a ≠ D := ne_of_none z nD
      have o2 : φ'.Out a := ⟨h2.1, by rw [hh]; exact fun q => (List.mem_cons.mp q).elim nd h2.2⟩
      obtain ⟨h3, h4⟩ := x2.keep a o h1 o2
      exact ⟨h3, h4.1, fun q => h4.2 (by rw [x2.hid, hh]; exact List.mem_cons_of_mem _ q)⟩, fun n a z => x2.pre n a (xe.pre n a z), rfl, fun a z => (x2.hk a (by rw [hh]; exact List.mem_cons_of_mem _ z)).trans (xe.hk a z)⟩
  have kw : Kp φ1 H1 φ' H' := ⟨fun a o z n => by
    obtain ⟨h1, h2⟩ := xe.keep a o z n
    exact ⟨h1, h2.1, by rw [hh]; exact fun q => (List.mem_cons.mp q).elim (ne_of_none z nD) h2.2⟩, xe.pre⟩
  have mD : ∀ {φ2 : Fi}, φ2.hid = φ'.hid → D ∈ φ2.hid := fun {φ2} q => by rw [q, hh]; exact List.mem_cons_self
  by_cases hi' : i < it.items.length
  · have hd := List.getElem?_eq_getElem hi'
    rw [List.drop_eq_getElem_cons hi'] at p'
    generalize it.items[i] = d at hd p'
    unfold lcGo at p'
    rw [bnd_assoc] at p'
    obtain ⟨g, p'⟩ := p'.need
    rw [bnd_assoc] at p'
    obtain ⟨ρ1, hρ, p'⟩ := p'.rdx
    rw [bnd_assoc] at p'
    refine .inr ⟨w.go i φ' S' H' kw s' g hi', fun H3 => ∃ φ3 S3 ds vs, φ3.hid = D :: φ1.hid ∧ Ext φ1 H1 (φ3.un φ1.hid) H3 ∧ H3 D = some (.lst vs) ∧ Reps K φ3 H3 ds vs ∧ ds.length ≤ i + 1 ∧ RepS K φ3 S3 H3 ∧ RepE K φ3 H3 (nvW ρ own) (wipe σ own) ∧
      post K cl (fun c d H' => W c d σ H') φ1 H1 ((lcGo it.gd t mt me (nvW ρ own) ds (it.items.drop (i + 1)) >>= fun ds => Mo.ret (Dt.lst ds)) S3) fun d _ φ' H' => ∀ v, Rep K φ' H' d v → Q v H', fun H3 h3 => ⟨m - 1, by omega, by omega, h3⟩, fun v H2 hy => ?_⟩
    obtain ⟨x2, s2, r2⟩ := w.yld i φ' S' H' v H2 d kw s' g hd hy
    refine ⟨φ', _, d, ρ1, e'.mono x2, r2, hρ, fun σ2 e2 on => ⟨(on.wipe hsl).trans (wipe_wipe _ _), ?_⟩⟩
    cases q : mt ρ1 S' with
    | bad => rw [mo_bnd_bad (nx_bad fun a b z => by rw [q] at z; cases z)] at p'; exact False.elim p'
    | exc c d S2 => rw [mo_bnd_bad (nx_bad fun a b z => by rw [q] at z; cases z)] at p'; exact False.elim p'
    | ok b S2 =>
      rw [bnd_ok (nx_ok q)] at p'
      refine ⟨φ', ρ1, S', e2, s2, ?_⟩
      rw [q]
      intro φ3 H3 x3 s3
      cases b with
      | false =>
        rw [if_neg Bool.false_ne_true] at p' ⊢
        have x4 := x2.trans x3
        exact ⟨φ3, S2, ds, vs, x4.hid.trans hh, xw x4, (x4.hk D (mD rfl)).trans hD, Reps.mono x4 _ _ rv, by omega, s3, e'.mono x4, p'⟩
      | true =>
        rw [if_pos rfl] at p' ⊢
        rw [bnd_assoc] at p'
        refine ⟨φ3, ρ1, S2, e2.mono x3, s3, ?_⟩
        cases q2 : me ρ1 S2 with
        | bad => rw [mo_bnd_bad (nx_bad fun a b z => by rw [q2] at z; cases z)] at p'; exact False.elim p'
        | exc c d S2 => rw [mo_bnd_bad (nx_bad fun a b z => by rw [q2] at z; cases z)] at p'; exact False.elim p'
        | ok y S3 =>
          rw [bnd_ok (nx_ok q2)] at p'
          intro φ4 H4 x4 s4 u ru
          have x5 := (x2.trans x3).trans x4
          have h5 : φ4.hid = D :: φ1.hid := x5.hid.trans hh
          have m5 : D ∈ φ4.hid := mD x5.hid
          have k5 : Kp φ4 H4 φ4 (upd H4 D (.lst (vs ++ [u]))) := Kp.updHid m5
          refine ⟨vs, (x5.hk D (mD rfl)).trans hD, ?_, φ4, S3, ds ++ [y], vs ++ [u], h5, ?_, upd_same, Reps.monoK k5 _ _ (Reps.app (Reps.mono x5 _ _ rv) ⟨u, [], rfl, ru, rfl⟩), by simp; omega, s4.updHid m5, (e'.mono x5).monoK k5, p'⟩
          · rw [← rv.length, sizeLine_eq]; unfold cap at hz; omega
          · have x6 := xw x5
            exact ⟨fun a o z n => ⟨by rw [upd_ne (ne_of_none z nD)]; exact (x6.keep a o z n).1, (x6.keep a o z n).2⟩, x6.pre, rfl, fun a z => (upd_ne (s1.hne nD z)).trans (x6.hk a z)⟩
  · rw [List.drop_eq_nil_of_le (by omega)] at p'
    unfold lcGo at p'
    rw [bnd_assoc] at p'
    obtain ⟨g, p'⟩ := p'.need
    refine .inl ⟨w.stop i φ' S' H' kw s' g (by omega), ?_⟩
    refine p' (φ'.un φ1.hid) H' xe (s'.unhid hh) (.ref D) ⟨D, vs, rfl, ⟨⟨(s'.hs D (mD rfl)).1, fun z => (s1.hs D z).2 nD⟩, hD⟩, Reps.monoK (Kp.unhid hh) _ _ rv⟩
theorem em_lc {elt tg iter : Expr} {ifs : List Expr} {scope : Scope} {own : List (Str × Nat)} {sl : List Nat} {mi : Nv → Mo Wk} {t : Tg} {mt : Nv → Mo Bool} {me : Nv → Mo Dt} (hc : X.calm = true) (hN : X.N.Nodup) (hi : PIm cl W X tg iter mi) (ok : BlkOk X.N X.env.scope scope own)
    (hg : ∀ (s : Shared) (H : Hp) (C : Addr) (cs : List (Str × Addr)) (fp : List Addr), PGm (X.blk s H scope (compEnvC scope cs C X.env) fp) tg sl t) (ht : ∀ (s : Shared) (H : Hp) (C : Addr) (cs : List (Str × Addr)) (fp : List Addr), PTsm cl (X.blk s H scope (compEnvC scope cs C X.env) fp) ifs mt)
    (he : ∀ (s : Shared) (H : Hp) (C : Addr) (cs : List (Str × Addr)) (fp : List Addr), PEm cl W0 (X.blk s H scope (compEnvC scope cs C X.env) fp) elt me) (hsl : ∀ i ∈ sl, i ∈ own.map (·.2) := by decide) (hs : ∀ x, foldedSetIterable iter X.env x = pure x := by intro _; rfl) :
    PEm cl W X (.ListComp elt [⟨tg, iter, ifs, 0⟩] scope pos) (mLc mi (own.map (·.2)) t mt me) := by
  have hg' : ∀ (s : Shared) (H : Hp) (C : Addr) (cs : List (Str × Addr)) (fp : List Addr), PG (X.blk s H scope (compEnvC scope cs C X.env) fp) tg (fun v σ H Q => ∃ φ ρ d ρ', RepE X.K φ H ρ σ ∧ Rep X.K φ H d v ∧ t d ρ = some ρ' ∧ ∀ σ', RepE X.K φ H ρ' σ' → Only sl σ σ' → Q σ' H) := hg
  have ht' : ∀ (s : Shared) (H : Hp) (C : Addr) (cs : List (Str × Addr)) (fp : List Addr), PTs (X.blk s H scope (compEnvC scope cs C X.env) fp) ifs (tT X.K cl W0 mt) := ht
  have he' : ∀ (s : Shared) (H : Hp) (C : Addr) (cs : List (Str × Addr)) (fp : List Addr), PE (X.blk s H scope (compEnvC scope cs C X.env) fp) elt (tE X.K cl W0 me) := he
  exact PE_imp (pe_lc hc hN hi ok hg' ht' he' hs) fun σ H Q h => rdLc hsl h
theorem sm_setLc {i : Nat} {y : Str} {py spos : Pos} {elt tg iter : Expr} {ifs : List Expr} {scope : Scope} {own : List (Str × Nat)} {sl : List Nat} {mi : Nv → Mo Wk} {t : Tg} {mt : Nv → Mo Bool} {me : Nv → Mo Dt} (hc : X.calm = true) (hN : X.N.Nodup) (hi : PIm cl W X tg iter mi) (ok : BlkOk X.N X.env.scope scope own)
    (hg : ∀ (s : Shared) (H : Hp) (C : Addr) (cs : List (Str × Addr)) (fp : List Addr), PGm (X.blk s H scope (compEnvC scope cs C X.env) fp) tg sl t) (ht : ∀ (s : Shared) (H : Hp) (C : Addr) (cs : List (Str × Addr)) (fp : List Addr), PTsm cl (X.blk s H scope (compEnvC scope cs C X.env) fp) ifs mt)
    (he : ∀ (s : Shared) (H : Hp) (C : Addr) (cs : List (Str × Addr)) (fp : List Addr), PEm cl W0 (X.blk s H scope (compEnvC scope cs C X.env) fp) elt me)
    (hsw : swapsWith (.ListComp elt [⟨tg, iter, ifs, 0⟩] scope pos) (some (.Name y py)) spos.line X.env = pure true) (hsl : ∀ i ∈ sl, i ∈ own.map (·.2) := by decide) (hy : X.N[i]? = some y := by rfl) (hyl : X.env.scope.names.lookup y = some .local := by rfl) (hs : ∀ x, foldedSetIterable iter X.env x = pure x := by intro _; rfl) :
    PSm cl W X (.Assign [.Name y py] (.ListComp elt [⟨tg, iter, ifs, 0⟩] scope pos) spos) (mSet i (mLc mi (own.map (·.2)) t mt me)) := by
  have hg' : ∀ (s : Shared) (H : Hp) (C : Addr) (cs : List (Str × Addr)) (fp : List Addr), PG (X.blk s H scope (compEnvC scope cs C X.env) fp) tg (gR X.K sl t) := hg
  have ht' : ∀ (s : Shared) (H : Hp) (C : Addr) (cs : List (Str × Addr)) (fp : List Addr), PTs (X.blk s H scope (compEnvC scope cs C X.env) fp) ifs (tT X.K cl W0 mt) := ht
  have he' : ∀ (s : Shared) (H : Hp) (C : Addr) (cs : List (Str × Addr)) (fp : List Addr), PE (X.blk s H scope (compEnvC scope cs C X.env) fp) elt (tE X.K cl W0 me) := he
  refine PS_imp (ps_setLc hc hN hy hyl hsw hi ok hg' ht' he' hs) fun D σ H h => ?_
  obtain ⟨φ, ρ, S, e, s, h⟩ := h
  exact rdLc hsl ((tS.ex (f := fun d ρ => Mo.ret (Fl.nx (ρ.set i (some d)))) e s h).imp fun x H1 ⟨φ1, S1, d, x1, e1, s1, r1, p⟩ => p.ok s1 _ (e1.set r1 i))
end
end ML

set_option Elab.async false
set_option linter.all false
set_option maxRecDepth 100000
set_option maxHeartbeats 1000000
/-! ML: dict comprehensions and displays. -/
namespace ML
open PySem PySem.Spec L2
open PyProof.Rows hiding St

noncomputable def dcGo (gd : Sto → Prop) (t : Tg) (mt : Nv → Mo Bool) (mk mv : Nv → Mo Dt) (ρ : Nv) : List Key → List Dt → List Dt → Mo (List Key × List Dt)
  | ks, xs, [] => Mo.need gd >>= fun _ => Mo.ret (ks, xs)
  | ks, xs, d :: r => Mo.need gd >>= fun _ => (Mo.rd fun _ => t d ρ) >>= fun ρ1 => Mo.nx (mt ρ1) >>= fun b => if b = true then Mo.nx (mk ρ1) >>= fun y => Mo.nx (mv ρ1) >>= fun z => (Mo.rd fun _ => y.key) >>= fun k => dcGo gd t mt mk mv ρ (dput ks xs k z).1 (dput ks xs k z).2 r else dcGo gd t mt mk mv ρ ks xs r
noncomputable def mDc (mi : Nv → Mo Wk) (own : List Nat) (t : Tg) (mt : Nv → Mo Bool) (mk mv : Nv → Mo Dt) : Nv → Mo Dt := fun ρ => mi ρ >>= fun it => (Mo.rd fun _ => if it.items.length ≤ cap then some () else none) >>= fun _ => dcGo it.gd t mt mk mv (nvW ρ own) [] [] it.items >>= fun p => Mo.ret (.dct p.1 p.2)
theorem nx_case {α : Type} {x : Mo α} {S : Sto} : (∃ a S', x S = .ok a S' ∧ Mo.nx x S = .ok a S') ∨ Mo.nx x S = .bad := by
  cases q : x S with
  | ok a S' => exact .inl ⟨a, S', rfl, nx_ok q⟩
  | exc c d S' => exact .inr (nx_bad fun a b z => by rw [q] at z; cases z)
  | bad => exact .inr (nx_bad fun a b z => by rw [q] at z; cases z)
theorem post.nx {K : PySem.W.Frag} {cl : Cl} {V : Value → Option Addr → Hp → Prop} {φ : Fi} {H : Hp} {α β : Type} {x : Mo α} {f : α → Mo β} {S : Sto} {k : β → Sto → Fi → Hp → Prop} (h : post K cl V φ H ((Mo.nx x >>= f) S) k) : ∃ a S', x S = .ok a S' ∧ post K cl V φ H (f a S') k := by
  rcases nx_case (x := x) (S := S) with ⟨a, S', q1, q2⟩ | q
  · rw [bnd_ok q2] at h
    exact ⟨a, S', q1, h⟩
  · rw [mo_bnd_bad q] at h
    exact False.elim h
theorem dput_len (ks : List Key) (xs : List Dt) (k : Key) (v : Dt) : (dput ks xs k v).1.length ≤ ks.length + 1 := by
  unfold dput
  split
  · exact Nat.le_succ _
  · simp
section
variable {cl : Cl} {W : WX} {X : Cx} {pos : Pos}
theorem rdDc {K : PySem.W.Frag} {own sl : List Nat} {mi : Nv → Mo Wk} {t : Tg} {mt : Nv → Mo Bool} {mk mv : Nv → Mo Dt} (hsl : ∀ i ∈ sl, i ∈ own) {σ : St} {H : Hp} {Q : VK} (h : tE K cl W (mDc mi own t mt mk mv) σ H Q) :
    tDc (tI K cl W mi) (gR K sl t) (tT K cl W0 mt) (tE K cl W0 mk) (tE K cl W0 mv) own σ H Q := by
  obtain ⟨φ, ρ, S, er, sr, h⟩ := h
  refine ⟨φ, ρ, S, er, sr, h.bnd.imp fun it S1 φ1 H1 x1 s1 p J w => ?_⟩
  obtain ⟨_, hz, p⟩ := p.rdx
  obtain ⟨hz, _⟩ := ifSome hz
  intro D nD
  have e1 := er.mono x1
  obtain ⟨sD, kD⟩ := s1.hide (o := .dK []) nD
  let Wn : Nat → Hp → Prop := fun i H' => ∃ φ' S' ks xs kvs, φ'.hid = D :: φ1.hid ∧ Ext φ1 H1 (φ'.un φ1.hid) H' ∧ H' D = some (.dK kvs) ∧ kvs.map (·.1) = ks ∧ Reps K φ' H' xs (kvs.map (·.2)) ∧ ks.length ≤ i ∧ RepS K φ' S' H' ∧ RepE K φ' H' (nvW ρ own) (wipe σ own) ∧
      post K cl (fun c d H' => W c d σ H') φ1 H1 ((dcGo it.gd t mt mk mv (nvW ρ own) ks xs (it.items.drop i) >>= fun p => Mo.ret (Dt.dct p.1 p.2)) S') fun d _ φ' H' => ∀ v, Rep K φ' H' d v → Q v H'
  refine ⟨fun i m H' => m + i = it.items.length ∧ Wn i H', ⟨it.items.length, rfl, ⟨φ1.st, D :: φ1.hid⟩, S1, [], [], [], rfl, ?_, upd_same, rfl, rfl, Nat.zero_le _, sD, repE_wipe (e1.monoK kD) _, p⟩, ?_⟩
  · exact ⟨fun a o z n => ⟨by rw [upd_ne (ne_of_none z nD)]; exact z, n⟩, fun _ _ z => z, rfl, fun a m => upd_ne (s1.hne nD m)⟩
  rintro i m H' ⟨hm, φ', S', ks, xs, kvs, hh, xe, hD, hks, rv, hl, s', e', p'⟩
  have xw : ∀ {φ2 : Fi} {H2 : Hp}, Ext φ' H' φ2 H2 → Ext φ1 H1 (φ2.un φ1.hid) H2 := fun {φ2 H2} x2 =>
    ⟨fun a o z n => by
      obtain ⟨h1, h2⟩ := xe.keep a o z n
      have nd : a ≠ D := ne_of_none z nD
      have o2 : φ'.Out a := ⟨h2.1, by rw [hh]; exact fun q => (List.mem_cons.mp q).elim nd h2.2⟩
      obtain ⟨h3, h4⟩ := x2.keep a o h1 o2
      exact ⟨h3, h4.1, fun q => h4.2 (by rw [x2.hid, hh]; exact List.mem_cons_of_mem _ q)⟩, fun n a z => x2.pre n a (xe.pre n a z), rfl, fun a z => (x2.hk a (by rw [hh]; exact List.mem_cons_of_mem _ z)).trans (xe.hk a z)⟩
  have kw : Kp φ1 H1 φ' H' := ⟨fun a o z n => by
    obtain ⟨h1, h2⟩ := xe.keep a o z n
    exact ⟨h1, h2.1, by rw [hh]; exact fun q => (List.mem_cons.mp q).elim (ne_of_none z nD) h2.2⟩, xe.pre⟩
  have mD : ∀ {φ2 : Fi}, φ2.hid = φ'.hid → D ∈ φ2.hid := fun {φ2} q => by rw [q, hh]; exact List.mem_cons_self
  by_cases hi' : i < it.items.length
  · have hd := List.getElem?_eq_getElem hi'
    rw [List.drop_eq_getElem_cons hi'] at p'
    generalize it.items[i] = d at hd p'
    unfold dcGo at p'
    rw [bnd_assoc] at p'
    obtain ⟨g, p'⟩ := p'.need
    rw [bnd_assoc] at p'
    obtain ⟨ρ1, hρ, p'⟩ := p'.rdx
    rw [bnd_assoc] at p'
    refine .inr ⟨w.go i φ' S' H' kw s' g hi', Wn (i + 1), fun H3 h3 => ⟨m - 1, by omega, by omega, h3⟩, fun v H2 hy => ?_⟩
    obtain ⟨x2, s2, r2⟩ := w.yld i φ' S' H' v H2 d kw s' g hd hy
    refine ⟨φ', _, d, ρ1, e'.mono x2, r2, hρ, fun σ2 e2 on => ⟨(on.wipe hsl).trans (wipe_wipe _ _), ?_⟩⟩
    obtain ⟨b, S2, q, p'⟩ := p'.nx
    refine ⟨φ', ρ1, S', e2, s2, ?_⟩
    rw [q]
    intro φ3 H3 x3 s3
    cases b with
    | false =>
      rw [if_neg Bool.false_ne_true] at p' ⊢
      have x4 := x2.trans x3
      exact ⟨φ3, S2, ks, xs, kvs, x4.hid.trans hh, xw x4, (x4.hk D (mD rfl)).trans hD, hks, Reps.mono x4 _ _ rv, by omega, s3, e'.mono x4, p'⟩
    | true =>
      rw [if_pos rfl] at p' ⊢
      rw [bnd_assoc] at p'
      obtain ⟨y, S3, q2, p'⟩ := p'.nx
      rw [bnd_assoc] at p'
      obtain ⟨z, S4, q3, p'⟩ := p'.nx
      rw [bnd_assoc] at p'
      obtain ⟨k, hk, p'⟩ := p'.rdx
      refine ⟨φ3, ρ1, S2, e2.mono x3, s3, ?_⟩
      rw [q2]
      intro φ4 H4 x4 s4 vk rk
      refine ⟨φ4, ρ1, S3, (e2.mono x3).mono x4, s4, ?_⟩
      rw [q3]
      intro φ5 H5 x5 s5 vz rz
      have x6 := ((x2.trans x3).trans x4).trans x5
      have m5 : D ∈ φ5.hid := mD x6.hid
      subst hks
      obtain ⟨d1, d2⟩ := dput_of (k := k) rz (Reps.mono x6 _ _ rv)
      have k5 : Kp φ5 H5 φ5 (upd H5 D (.dK (putK kvs k vz))) := Kp.updHid m5
      refine ⟨kvs, k, rk.key hk, (x6.hk D (mD rfl)).trans hD, ?_, φ5, S4, _, _, putK kvs k vz, x6.hid.trans hh, ?_, upd_same, d1, Reps.monoK k5 _ _ d2, ?_, s5.updHid m5, (e'.mono x6).monoK k5, p'⟩
      · rw [List.length_map] at hl
        rw [sizeLine_eq]; unfold cap at hz; omega
      · have x7 := xw x6
        exact ⟨fun a o z n => ⟨by rw [upd_ne (ne_of_none z nD)]; exact (x7.keep a o z n).1, (x7.keep a o z n).2⟩, x7.pre, rfl, fun a z => (upd_ne (s1.hne nD z)).trans (x7.hk a z)⟩
      · have := dput_len (kvs.map (·.1)) xs k z
        omega
  · rw [List.drop_eq_nil_of_le (by omega)] at p'
    unfold dcGo at p'
    rw [bnd_assoc] at p'
    obtain ⟨g, p'⟩ := p'.need
    refine .inl ⟨w.stop i φ' S' H' kw s' g (by omega), ?_⟩
    exact p' (φ'.un φ1.hid) H' xe (s'.unhid hh) (.ref D) ⟨D, kvs, rfl, ⟨(s'.hs D (mD rfl)).1, fun z => (s1.hs D z).2 nD⟩, hD, hks, Reps.monoK (Kp.unhid hh) _ _ rv⟩
theorem sm_setDc {i : Nat} {y : Str} {py spos : Pos} {kx vx tg iter : Expr} {ifs : List Expr} {scope : Scope} {own : List (Str × Nat)} {sl : List Nat} {mi : Nv → Mo Wk} {t : Tg} {mt : Nv → Mo Bool} {mk mv : Nv → Mo Dt} (hc : X.calm = true) (hN : X.N.Nodup) (hi : PIm cl W X tg iter mi) (ok : BlkOk X.N X.env.scope scope own)
    (hg : ∀ (s : Shared) (H : Hp) (C : Addr) (cs : List (Str × Addr)) (fp : List Addr), PGm (X.blk s H scope (compEnvC scope cs C X.env) fp) tg sl t) (ht : ∀ (s : Shared) (H : Hp) (C : Addr) (cs : List (Str × Addr)) (fp : List Addr), PTsm cl (X.blk s H scope (compEnvC scope cs C X.env) fp) ifs mt)
    (hk : ∀ (s : Shared) (H : Hp) (C : Addr) (cs : List (Str × Addr)) (fp : List Addr), PEm cl W0 (X.blk s H scope (compEnvC scope cs C X.env) fp) kx mk)
    (he : ∀ (s : Shared) (H : Hp) (C : Addr) (cs : List (Str × Addr)) (fp : List Addr), PEm cl W0 (X.blk s H scope (compEnvC scope cs C X.env) fp) vx mv)
    (hsw : swapsWith (.DictComp kx vx [⟨tg, iter, ifs, 0⟩] scope pos) (some (.Name y py)) spos.line X.env = pure true) (hsl : ∀ i ∈ sl, i ∈ own.map (·.2) := by decide) (hy : X.N[i]? = some y := by rfl) (hyl : X.env.scope.names.lookup y = some .local := by rfl) (hs : ∀ x, foldedSetIterable iter X.env x = pure x := by intro _; rfl) :
    PSm cl W X (.Assign [.Name y py] (.DictComp kx vx [⟨tg, iter, ifs, 0⟩] scope pos) spos) (mSet i (mDc mi (own.map (·.2)) t mt mk mv)) := by
  have hg' : ∀ (s : Shared) (H : Hp) (C : Addr) (cs : List (Str × Addr)) (fp : List Addr), PG (X.blk s H scope (compEnvC scope cs C X.env) fp) tg (gR X.K sl t) := hg
  have ht' : ∀ (s : Shared) (H : Hp) (C : Addr) (cs : List (Str × Addr)) (fp : List Addr), PTs (X.blk s H scope (compEnvC scope cs C X.env) fp) ifs (tT X.K cl W0 mt) := ht
  have hk' : ∀ (s : Shared) (H : Hp) (C : Addr) (cs : List (Str × Addr)) (fp : List Addr), PE (X.blk s H scope (compEnvC scope cs C X.env) fp) kx (tE X.K cl W0 mk) := hk
  have he' : ∀ (s : Shared) (H : Hp) (C : Addr) (cs : List (Str × Addr)) (fp : List Addr), PE (X.blk s H scope (compEnvC scope cs C X.env) fp) vx (tE X.K cl W0 mv) := he
  refine ⟨fun pins s σ H D I h => ?_⟩
  obtain ⟨φ, ρ, S, e, s0, h⟩ := h
  have want := rdDc hsl ((tS.ex (f := fun d ρ => Mo.ret (Fl.nx (ρ.set i (some d)))) e s0 h).imp (Q' := fun x H1 => gName i x σ H1 D.nx) fun x H1 ⟨φ1, S1, d, x1, e1, s1, r1, p⟩ => p.ok s1 _ (e1.set r1 i))
  rw [exec_Assign_Name_used _ _ _ _ hsw]
  refine wpAny_bind (wpAny_standAt (wpAny_bind ?_))
  show wpAny _ X.A (do let _ ← comprehension (.DictComp kx vx [⟨tg, iter, ifs, 0⟩] scope pos) scope X.env (firstIterPos [⟨tg, iter, ifs, 0⟩] pos) newDict false (eval iter X.env) (some (assign (.Name y py) X.env))) _ _ s
  refine wpAny_bind (thn (dc_core (Qf := fun _ s' => SP X pins D .next s') hc hN I hi ok hg' ht' hk' he' hs want fun L C s' m H' I' q hn f => ?_) fun _ s' hq => wpAny_pure (wpAny_pure hq))
  show wpAny _ _ (assign (.Name y py) X.env (.ref L)) _ _ _
  refine wpAny_assign_Name (store_ok2 (v := V.ref L) I' hN hy (.inl hyl) rfl (fun s2 I2 ⟨a, sb, ha⟩ => ?_) (.inr hyl))
  obtain ⟨f0, f1, f2, f3, f4, f5⟩ := f
  have apart : C ≠ a := ha.elim (fun z => by rw [z]; exact f1) fun z q => f4 y a z q.symm
  refine ⟨m, hn.sameBut sb apart, fun h3 sb3 => ?_⟩
  exact ⟨_, H', I2.turned (t' := s2.toks) (fun b o hb e => (sb3.2 b hb).trans e) f0 f1 f3 f4 f5, q⟩
end
end ML

set_option Elab.async false
set_option linter.all false
set_option maxRecDepth 100000
set_option maxHeartbeats 1000000
/-! ML: dict displays, as objects of the store. -/
namespace ML
open PySem PySem.Spec L2
open PyProof.Rows hiding St

abbrev MPair := (Nv → Mo Dt) × (Nv → Mo Dt)
def mKv : List MPair → Nv → Mo (List (Key × Dt))
  | [], _ => Mo.ret []
  | p :: r, ρ => Mo.nx (p.1 ρ) >>= fun y => Mo.nx (p.2 ρ) >>= fun z => (Mo.rd fun _ => y.key) >>= fun k => mKv r ρ >>= fun l => Mo.ret ((k, z) :: l)
def dputs (l : List (Key × Dt)) : List Key → List Dt → List Key × List Dt := fun ks xs => l.foldl (fun a kv => dput a.1 a.2 kv.1 kv.2) (ks, xs)
def nDic (l : List (Key × Dt)) : Option Ob := if l.length ≤ 15 then some (.dK (dputs l [] []).1 (dputs l [] []).2) else none
def mDisp (ps : List MPair) : Nv → Mo Dt := fun ρ => mKv ps ρ >>= fun l => Mo.new (nDic l)
theorem mo_ok {α β : Type} {x : Mo α} {f : α → Mo β} {S S' : Sto} {b : β} (h : (x >>= f) S = .ok b S') : ∃ a S1, x S = .ok a S1 ∧ f a S1 = .ok b S' := by
  cases q : x S with
  | ok a S1 => rw [bnd_ok q] at h; exact ⟨a, S1, rfl, h⟩
  | exc c d S1 => rw [bnd_exc q] at h; cases h
  | bad => rw [mo_bnd_bad q] at h; cases h
theorem nx_inv {α : Type} {x : Mo α} {S S' : Sto} {a : α} (h : Mo.nx x S = .ok a S') : x S = .ok a S' := by
  rcases nx_case (x := x) (S := S) with ⟨b, S2, q1, q2⟩ | q
  · rw [q2] at h; cases h; exact q1
  · rw [q] at h; cases h
theorem rd_bad {α : Type} {f : Sto → Option α} {S : Sto} (h : f S = none) : Mo.rd f S = .bad := by
  show (match f S with | some a => Rs.ok a S | none => .bad) = _
  rw [h]
theorem rd_inv {α : Type} {f : Sto → Option α} {S S' : Sto} {a : α} (h : Mo.rd f S = .ok a S') : f S = some a ∧ S' = S := by
  cases q : f S with
  | none =>
    have : Mo.rd f S = .bad := by
      show (match f S with | some a => Rs.ok a S | none => .bad) = _
      rw [q]
    rw [this] at h; cases h
  | some b => rw [Mo.rd_ok q] at h; cases h; exact ⟨rfl, rfl⟩
theorem mKv_not {ps : List MPair} {ρ : Nv} : ∀ {S c d S'}, mKv ps ρ S ≠ .exc c d S' := by
  induction ps with
  | nil => intro S c d S' h; cases h
  | cons p r ih =>
    intro S c d S' h
    unfold mKv at h
    rcases nx_case (x := p.1 ρ) (S := S) with ⟨y, S1, _, q⟩ | q
    · rw [bnd_ok q] at h
      rcases nx_case (x := p.2 ρ) (S := S1) with ⟨z, S2, _, q2⟩ | q2
      · rw [bnd_ok q2] at h
        cases hk : y.key with
        | none =>
          rw [mo_bnd_bad (rd_bad (f := fun _ => y.key) (S := S2) hk)] at h; cases h
        | some k =>
          rw [bnd_ok (Mo.rd_ok (S := S2) (f := fun _ => y.key) hk)] at h
          cases q3 : mKv r ρ S2 with
          | ok l S3 => rw [bnd_ok q3] at h; cases h
          | exc c d S3 => exact ih q3
          | bad => rw [mo_bnd_bad q3] at h; cases h
      · rw [mo_bnd_bad q2] at h; cases h
    · rw [mo_bnd_bad q] at h; cases h
section
variable {K : PySem.W.Frag} {cl : Cl} {σ : St}
theorem rdPairs {ρ : Nv} : ∀ (ps : List MPair) {φ : Fi} {H : Hp} {S S' : Sto} {l : List (Key × Dt)} {Q : List (V × V) → Hp → Prop}, RepE K φ H ρ σ → RepS K φ S H → mKv ps ρ S = .ok l S' →
    (∀ φ' H' (kvs : List (Key × V)), Ext φ H φ' H' → RepS K φ' S' H' → kvs.map (·.1) = l.map (·.1) → Reps K φ' H' (l.map (·.2)) (kvs.map (·.2)) → Q (kvs.map fun kv => (kV kv.1, kv.2)) H') →
    tPairs (ps.map fun p => (tE K cl W0 p.1, tE K cl W0 p.2)) σ H Q
  | [], φ, H, S, S', l, Q, e, s, h, k => by
    cases h
    exact k φ H [] (Ext.refl _ _) s rfl rfl
  | p :: r, φ, H, S, S', l, Q, e, s, h, k => by
    unfold mKv at h
    obtain ⟨y, S1, h1, h⟩ := mo_ok h
    obtain ⟨z, S2, h2, h⟩ := mo_ok h
    obtain ⟨j, S3, h3, h⟩ := mo_ok h
    obtain ⟨l', S4, h4, h⟩ := mo_ok h
    cases h
    obtain ⟨hj, rfl⟩ := rd_inv h3
    have h1 := nx_inv h1
    have h2 := nx_inv h2
    refine ⟨φ, ρ, S, e, s, ?_⟩
    rw [h1]
    intro φ1 H1 x1 s1 v r1
    refine ⟨φ1, ρ, S1, e.mono x1, s1, ?_⟩
    rw [h2]
    intro φ2 H2 x2 s2 u r2
    refine rdPairs r ((e.mono x1).mono x2) s2 h4 fun φ3 H3 kvs x3 s3 ek rk => ?_
    obtain rfl := r1.key hj
    exact k φ3 H3 ((j, u) :: kvs) ((x1.trans x2).trans x3) s3 (by rw [List.map_cons, List.map_cons, ek]) ⟨u, _, rfl, Rep.mono x3 _ _ r2, rk⟩
end
theorem dputs_of {K : PySem.W.Frag} {φ : Fi} {H : Hp} : ∀ (l : List (Key × Dt)) (kvs base : List (Key × V)) (ks : List Key) (xs : List Dt), kvs.map (·.1) = l.map (·.1) → Reps K φ H (l.map (·.2)) (kvs.map (·.2)) → base.map (·.1) = ks → Reps K φ H xs (base.map (·.2)) →
    (mergeK base kvs).map (·.1) = (dputs l ks xs).1 ∧ Reps K φ H (dputs l ks xs).2 ((mergeK base kvs).map (·.2))
  | [], kvs, base, ks, xs, e, r, eb, rb => by
    cases kvs with
    | nil => exact ⟨eb, rb⟩
    | cons a b => cases e
  | kd :: l, kvs, base, ks, xs, e, r, eb, rb => by
    cases kvs with
    | nil => cases e
    | cons kv kvs =>
      obtain ⟨k, d⟩ := kd
      obtain ⟨k2, v⟩ := kv
      obtain ⟨v', q, z, ra, rr⟩ := r
      cases z
      have e1 : k2 = k := (List.cons.inj e).1
      have e2 := (List.cons.inj e).2
      subst e1
      subst eb
      obtain ⟨d1, d2⟩ := dput_of (k := k2) ra rb
      exact dputs_of l kvs (putK base k2 v) _ _ e2 rr d1 d2
section
variable {cl : Cl} {W : WX} {X : Cx}
theorem em_disp {keys : List (Option Expr)} {values : List Expr} {pos : Pos} {ps : List MPair} (h : PPs X pos keys values (ps.map fun p => (tE X.K cl W0 p.1, tE X.K cl W0 p.2))) (hall : keys.all (·.isSome) = true := by rfl) (hl : keys.length = values.length := by rfl) (h0 : keys ≠ [] := by simp)
    (h15 : keys.length ≤ 15 := by decide) : PEm cl W X (.Dict keys values pos) (mDisp ps) := by
  refine PE_imp (pe_disp h hall hl h0 h15) fun σ H Q h => ?_
  obtain ⟨φ, ρ, S, e, s, h⟩ := h
  intro p np
  unfold mDisp at h
  cases q : mKv ps ρ S with
  | exc c d S1 => exact absurd q mKv_not
  | bad => rw [mo_bnd_bad q] at h; exact False.elim h
  | ok l S1 =>
    rw [bnd_ok q] at h
    unfold nDic at h
    by_cases hz : l.length ≤ 15
    · rw [if_pos hz] at h
      obtain ⟨sD, kD⟩ := s.hide (o := .dK []) np
      refine rdPairs (cl := cl) ps (e.monoK kD) sD q fun φ2 H2 kvs x2 s2 ek rk => ?_
      have hm : p ∈ φ2.hid := by rw [x2.hid]; exact List.mem_cons_self
      have hh : φ2.hid = p :: φ.hid := x2.hid
      refine ⟨(x2.hk p List.mem_cons_self).trans upd_same, kvs, rfl, ?_, ?_⟩
      · have := congrArg List.length ek
        rw [List.length_map, List.length_map] at this
        omega
      · let H3 : Hp := del H2 p
        have n3 : H3 p = none := del_same
        have eu : ∀ o, upd H2 p o = upd H3 p o := fun o => by
          funext b
          by_cases hb : b = p
          · rw [hb, upd_same, upd_same]
          · rw [upd_ne hb, upd_ne hb]; exact (del_ne hb).symm
        have k3 : Kp φ2 H2 (φ2.un φ.hid) H3 := ⟨fun a o z n => by
          have hne : a ≠ p := fun w => n.2 (by rw [w]; exact hm)
          exact ⟨(del_ne hne).trans z, n.1, fun w => n.2 (by rw [hh]; exact List.mem_cons_of_mem _ w)⟩, fun _ _ z => z⟩
        have s3 : RepS X.K (φ2.un φ.hid) S1 H3 := ⟨s2.len, s2.nd, fun n a u e1 e2 => (s2.ob n a u e1 e2).monoK k3 (del_ne fun z => (s2.hs p hm).1 (z ▸ List.mem_of_getElem? e1)), fun a m => by
          have hne : a ≠ p := s.hne np m
          obtain ⟨h1, h2⟩ := s2.hs a (by rw [hh]; exact List.mem_cons_of_mem _ m)
          exact ⟨h1, by rw [show H3 a = H2 a from del_ne hne]; exact h2⟩⟩
        have x3 : Ext φ H (φ2.un φ.hid) H3 := ⟨fun a o z n => by
          have hne : a ≠ p := ne_of_none z np
          obtain ⟨h1, h2⟩ := x2.keep a o (by rw [upd_ne hne]; exact z) ⟨n.1, fun w => (List.mem_cons.mp w).elim hne n.2⟩
          exact k3.keep a o h1 h2, x2.pre, rfl, fun a m => by
          have hne : a ≠ p := s.hne np m
          rw [show H3 a = H2 a from del_ne hne, x2.hk a (List.mem_cons_of_mem _ m), upd_ne hne]⟩
        rw [eu]
        have x4 := Ext.new (o := .dK (mergeK [] kvs)) s3 n3
        have rk4 := Reps.monoK x4.kp _ _ (Reps.monoK k3 _ _ rk)
        obtain ⟨d1, d2⟩ := dputs_of l kvs [] [] [] ek rk4 rfl rfl
        refine h _ _ (x3.trans x4) (s3.new n3 ⟨_, upd_same, d1, d2⟩) _ ⟨p, rfl, ?_⟩
        show ((φ2.un φ.hid).st ++ [p])[S1.length]? = some p
        rw [← s3.len, List.getElem?_append_right (Nat.le_refl _)]
        simp
    · rw [if_neg hz] at h; exact False.elim h
end
def PPm (cl : Cl) (X : Cx) (pos : Pos) (keys : List (Option Expr)) (values : List Expr) (ps : List MPair) : Prop := PPs X pos keys values (ps.map fun p => (tE X.K cl W0 p.1, tE X.K cl W0 p.2))
theorem pm_nil {cl : Cl} {X : Cx} {pos : Pos} : PPm cl X pos [] [] [] := pps_nil
theorem pm_cons {cl : Cl} {X : Cx} {pos : Pos} {k v : Expr} {ks : List (Option Expr)} {vs : List Expr} {mk mv : Nv → Mo Dt} {ps : List MPair} (hk : PEm cl W0 X k mk) (hv : PEm cl W0 X v mv) (hr : PPm cl X pos ks vs ps) : PPm cl X pos (some k :: ks) (v :: vs) ((mk, mv) :: ps) := pps_cons hk hv hr
end ML

set_option Elab.async false
set_option linter.all false
set_option maxRecDepth 100000
set_option maxHeartbeats 1000000
/-! ML: own exceptions: made, raised, caught. -/
namespace ML
open PySem PySem.Spec L2
open PyProof.Rows hiding St

/-! ### __init__ of an own class: Base.__init__(self); self.f = value -/
section
variable {X : Cx} {x : Str} {R : Addr} {mc : Value} {e : Expr} {es : List Expr} {ta : TA} {p1 p2 pos : Pos}
/-- the base class's __init__, the base class being an own one that takes ValueError's -/
theorem pe_baseInit {pl : Sem Bool} (hg : Gl X x) (hm : X.mg x = some (.ref R)) (rd : ClX.CRead X.K R mc) (at_ : PySem.W.findCls X.K (.ref R) mc "__init__" = some (.val (.builtin "ValueError.__init__"))) (ha : PA X (e :: es) ta)
    (hc : eval (.Call (.Attribute (.Name x p1) "__init__" p2) (e :: es) [] pos) X.env = (do
      let o ← eval (.Name x p1) X.env
      standAt p2.atName
      let (g, fst) ← holding [o] (getMethod o "__init__" pl)
      callWith pos g fst (backTo pos (starEach (e :: es) X.env)) (backToKw pos (keywordEach [] X.env))) := by rfl)
    (hdb : (x == ("__debug__" : Str)) = false := by decide) (he : starEach (e :: es) X.env = (false, eval e X.env) :: starEach es X.env := by rfl) (hpl : (backTo pos (starEach es X.env)).any (·.1) = false := by rfl) :
    PE X (.Call (.Attribute (.Name x p1) "__init__" p2) (e :: es) [] pos) (tVeI X.K ta) := by
  refine ⟨fun pins s σ H Q I want => PySem.W.methodCall_KW (ld_glob I hg hm ?_ hdb) hc⟩
  refine PySem.W.method_cls I.kIn rd.ga (PySem.W.cls_value I.kIn rd.rd at_ (by decide +kernel) ?_)
  show wpAny _ _ (callWith pos (Value.builtin "ValueError.__init__") [] (backTo pos (starEach (e :: es) X.env)) []) _ _ _
  refine PyProof.Rows.callWith_method1 (thn (ha.run pos pins _ σ H _ (I.tok _) want) fun us s1 got => ?_) he hpl
  obtain ⟨vs, H1, I1, r1, a, C, ws, ev, hl, T, ea, q⟩ := got
  subst ev
  cases r1 with
  | @cons _ u0 _ ur ra rw' =>
    obtain rfl : u0 = Value.ref a := ra
    exact oinit_ok T I1 ea (by rw [← Paired.length rw', sizeLine_eq]; omega) fun s2 I2 => ⟨.non, H1, I2, rfl, q⟩
end
/-- what such an __init__ promises -/
def spIni (K : PySem.W.Frag) (f : Str) : Sp := fun vs H Q _ => ∃ (a C : Addr) (v : V), vs = [.ref a, v] ∧ OexC K C ∧ PySem.W.findIn K (.ref C) f = some none ∧ H a = some (exo a C none) ∧
  ∀ dx, H dx = none → dx ≠ a → Q .non (upd (upd H dx (exd dx [(f, v)])) a (exo a C (some dx)))
section
variable {P : Program} {w : World} {K : PySem.W.Frag} {mg : Str → Option Value} {base : Heap}
abbrev tIni (K : PySem.W.Frag) (f : Str) : TS := tSeq (tDrop (tVeI K (tCons (tVar 0) tNil))) (tOst K f (tVar 0) (tVar 1))
theorem ini_ok {k : Nat} {fa : Addr} {x qual f s v : Str} {st : Stmt} {fd : FuncData} (F : Fun K x qual st fa fd) (sc : FnScope [s, v] [s, v] (defScope st))
    (body : ∀ (X : Cx) (cd : Value) (B : Around) (out : List Env) (t : Shared) (H : Hp) (E : XK), X = cxOf (L2.CX P w) P w K mg base [s, v] qual (defScope st) fa cd B out t H E → PSs X (defBody st) (tIni X.K f)) :
    FnOk P w K mg base (L2.CX P w) (k + 1) fa fd [s, v] (spIni K f) := by
  refine F.okX sc (fun vs H Q E h => ?_) (fun cd B out t H vs Q E hr h => ⟨_, body _ cd B out t H E rfl, ?_⟩)
  · obtain ⟨a, C, u, rfl, _⟩ := h
    rfl
  · obtain ⟨a, C, u, rfl, T, hno, ea, q⟩ := h
    refine ⟨.ref a, rfl, a, C, [], rfl, Nat.zero_le _, T, ea, ?_⟩
    exact ⟨u, rfl, .ref a, rfl, a, C, rfl, T, hno, .inl ⟨ea, fun dx n ne => q dx n ne⟩⟩
end

/-! ### raise C(e) -/
def mErr {α : Type} (c : Str) (ms : Nv → Mo (List Dt)) : Nv → Mo α := fun ρ => ms ρ >>= fun ds => match ds with
  | [d] => Mo.err c d
  | _ => Mo.no
/-- what is known of an own exception class, to raise it -/
structure Rai (P : Program) (w : World) (K : PySem.W.Frag) (mg : Str → Option Value) (base : Heap) (cl : Cl) (k : Nat) (x : Str) : Prop where
  ex : ∃ (C fI : Addr) (f s v : Str) (fd : FuncData), cl x = some (C, f) ∧ mg x = some (.ref C) ∧ OexC K C ∧ PySem.W.findIn K (.ref C) "__init__" = some (some (.ref fI)) ∧ PySem.W.typeIn K (.ref fI) = some (.type "function") ∧
    FnOk P w K mg base (L2.CX P w) k fI fd [s, v] (spIni K f) ∧ Binds K fd [s, v] [] ∧ PySem.W.findIn K (.ref C) f = some none
section
variable {X : Cx} {cl : Cl} {W : WX} {k j : Nat} {x : Str} {p pos pos' : Pos} {e : Expr} {es : List Expr} {ms : Nv → Mo (List Dt)}
theorem sm_raise (R : Rai X.prog X.w X.K X.mg X.base cl k x) (room : Room j X.A) (hc : X.calm = true) (tk : Takes X W) (ha : PAm cl W X (e :: es) ms) (hk : k + 1 ≤ j := by decide) (hg : Gl X x := by rfl) (hdb : (x == ("__debug__" : Str)) = false := by decide)
    (he : starEach (e :: es) X.env = (false, eval e X.env) :: starEach es X.env := by rfl) (hpl : (backTo pos (starEach es X.env)).any (·.1) = false := by rfl) : PSm cl W X (.Raise (some (.Call (.Name x p) (e :: es) [] pos)) none pos') (mErr x ms) := by
  obtain ⟨C, fI, f, s, v, fd, hcl, hm, T, iC, tI, F, bd, hno⟩ := R.ex
  have px : Passes (L2.CX X.prog X.w) X (fun _ _ _ => False) := passL
  refine PS_imp (ps_raise hc tk (pmk_oex T iC tI F (room.mono hk) bd .nil px hg hm ha hdb he hpl)) fun D σ H h => ?_
  obtain ⟨φ, ρ, S, er, sr, h⟩ := h
  refine (tS.ar (f := fun ds _ => match ds with
    | [d] => Mo.err x d
    | _ => Mo.no) er sr h).imp fun vs H1 ⟨φ1, S1, ds, x1, e1, s1, r1, p⟩ => ?_
  match ds, r1, p with
  | [], r1, p => exact False.elim p
  | _ :: _ :: _, r1, p => exact False.elim p
  | [d], r1, p =>
    obtain ⟨u, rfl, ru⟩ := reps1 r1
    refine ⟨by simp, fun a na => ⟨a, C, u, rfl, T, hno, upd_same, fun dx nd ne => ?_⟩⟩
    have n1 : H1 dx = none := by rw [← nd]; exact (upd_ne ne).symm
    refine ⟨rfl, dx, [(f, u)], upd_same, by rw [upd_ne ne, upd_same], n1, ?_⟩
    have eu : upd (del (upd (upd (upd H1 a (exo a C none)) dx (exd dx [(f, u)])) a (exo a C (some dx))) a) dx (.xd [(f, u)]) = upd H1 dx (.xd [(f, u)]) := by
      funext b
      by_cases h1 : b = dx
      · rw [h1, upd_same, upd_same]
      · rw [upd_ne h1, upd_ne h1]
        by_cases h2 : b = a
        · rw [h2, del_same, na]
        · rw [del_ne h2, upd_ne h2, upd_ne h1, upd_ne h2]
    rw [eu]
    exact p φ1 _ (Ext.out s1 n1) (s1.out n1) C f dx u hcl (Rep.mono (Ext.out s1 n1) _ _ ru) upd_same σ
end

/-! ### a local name that holds a def -/
structure CalA (P : Program) (w : World) (K : PySem.W.Frag) (mg : Str → Option Value) (base : Heap) (cl : Cl) (k : Nat) (f : Addr) (n : Nat) (m : Fm) : Prop where
  ex : ∃ (fd : FuncData) (ps : List Str), FnM P w K mg base cl k f fd ps m ∧ ps.length = n ∧ PySem.W.keepIn K (.ref f) = true ∧ Binds K fd ps []
abbrev Tbl := Addr → Option (Nat × Fm)
def Dt.fnT (t : Tbl) : Dt → Option (Nat × Fm)
  | .raw (.ref f) => t f
  | _ => none
def mCallL (i : Nat) (t : Tbl) (ms : Nv → Mo (List Dt)) : Nv → Mo Dt := fun ρ => mVar i ρ >>= fun d => (Mo.rd fun _ => d.fnT t) >>= fun nm => ms ρ >>= fun ds => mArg nm.1 nm.2 ds
section
variable {X : Cx} {cl : Cl} {W : WX} {k j i : Nat} {x : Str} {p pos : Pos} {e : Expr} {es : List Expr} {ms : Nv → Mo (List Dt)} {t : Tbl}
theorem em_callL (A : ∀ f n m, t f = some (n, m) → CalA X.prog X.w X.K X.mg X.base cl k f n m) (room : Room j X.A) (gd : X.A.guards = some []) (tk : Takes X W) (ha : PAm cl W X (e :: es) ms) (hk : k ≤ j := by decide)
    (hN : X.N[i]? = some x := by rfl) (hv : Vis X.env.scope x := by first | exact Or.inl rfl | exact Or.inr (Or.inl rfl) | exact Or.inr (Or.inr rfl)) (hdb : (x == ("__debug__" : Str)) = false := by decide) (hcd : (x == ("__classdict__" : Str)) = false := by decide)
    (he : starEach (e :: es) X.env = (false, eval e X.env) :: starEach es X.env := by rfl) (hpl : (backTo pos (starEach es X.env)).any (·.1) = false := by rfl) : PEm cl W X (.Call (.Name x p) (e :: es) [] pos) (mCallL i t ms) := by
  refine ⟨fun pins s σ H Q I h => ?_⟩
  obtain ⟨φ, ρ, S, er, sr, h⟩ := h
  unfold mCallL at h
  have h0 := h.bnd
  unfold mVar at h0
  cases q : (ρ[i]?).join with
  | none => rw [q] at h0; exact False.elim h0
  | some d =>
    rw [q] at h0
    have h1 := h0.ok sr
    obtain ⟨v, e1, r1⟩ := er.at_ i d (Option.join_eq_some_iff.mp q)
    obtain ⟨⟨n, m⟩, hd, h2⟩ := h1.bnd.rd
    have h2 := h2 φ H (Ext.refl _ _) sr
    cases d with
    | raw u =>
      cases u with
      | ref f =>
        obtain rfl : v = .ref f := r1
        obtain ⟨fd, ps, F, hps, kp, bd⟩ := (A f n m hd).ex
        refine wpAny_Call_Name_kw (thn ((pe_var (pos := p) hN hv hdb hcd).run pins s σ H (fun v H1 => v = .ref f ∧ H1 = H) I ⟨.ref f, e1, rfl, rfl⟩) fun u s1 ⟨v, H1, I1, rr, q1⟩ => ?_)
        obtain ⟨rfl, rfl⟩ := q1
        cases rr
        have go := (tA.b1 (f := fun ds _ => mArg n m ds) er sr h2)
        refine PySem.W.callWith_K (h₀ := X.base) I.ok.mod.kin kp (thn (ha.run pos pins s1 σ _ _ I1 go) fun us s2 ⟨vs, H2, I2, r, φ1, S1, ds, x1, e1, sr1, r1, p1⟩ => ⟨I2.kIn, ?_⟩) he hpl
        unfold mArg at p1
        by_cases hn : ds.length = n
        · rw [if_pos hn] at p1
          exact runG F (room.mono hk) gd bd (E := WE W) (passAt tk σ) I2 r ⟨by rw [← r1.length, hn, hps], φ1, ds, S1, r1, sr1, p1⟩
        · rw [if_neg hn] at p1
          exact False.elim p1
      | _ => exact absurd (show (none : Option (Nat × Fm)) = some (n, m) from hd) (fun z => nomatch z)
    | _ => exact absurd (show (none : Option (Nat × Fm)) = some (n, m) from hd) (fun z => nomatch z)
end

/-! ### try: e; except C as x: return [x.f] -/
def mTry1 (c : Str) (i : Nat) (m : Nv → Mo Dt) : Nv → Mo Fl := fun ρ S => match m ρ S with
  | .ok _ S' => .ok (.nx ρ) S'
  | .exc c' d S' => if c' = c then (if i < ρ.length then .ok (.rt (.lst [d])) S' else .bad) else .exc c' d S'
  | .bad => .bad
/-- what is known of an own exception class, to catch it -/
structure Cat (K : PySem.W.Frag) (mg : Str → Option Value) (cl : Cl) (x : Str) (f : Str) : Prop where
  ex : ∃ (C : Addr), cl x = some (C, f) ∧ mg x = some (.ref C) ∧ XfC K C ∧ PySem.W.findIn K (.ref C) f = some none ∧ ∀ c' C' f', cl c' = some (C', f') → PySem.W.exmOne K (.ref C') (.ref C) = some (decide (c' = x))
section
variable {X : Cx} {cl : Cl} {W : WX} {i : Nat} {x n f : Str} {e : Expr} {np pos p1 p2 p3 p4 p5 p6 : Pos} {m : Nv → Mo Dt}
theorem sm_try1 (C : Cat X.K X.mg cl x f) (hs : X.stack = X.env :: X.outer) (hf : X.env.frame = some X.env.locals) (hN : X.N.Nodup) (tk : Takes X W)
    (hb : ∀ (W' : WX) (pn : List (Addr × Obj)) (xe : Value → Shared → Prop), Takes (X.tr pn xe) W' → PEm cl W' (X.tr pn xe) e m)
    (hi : X.N[i]? = some n := by rfl) (hln : X.env.kindOf n = some .local := by rfl) (hv : Vis X.env.scope n := by first | exact Or.inl rfl | exact Or.inr (Or.inl rfl) | exact Or.inr (Or.inr rfl)) (hg : Gl X x := by rfl) (hdb : (x == ("__debug__" : Str)) = false := by decide)
    (hdn : (n == ("__debug__" : Str)) = false := by decide) (hcn : (n == ("__classdict__" : Str)) = false := by decide)
    (hsw : swapsWith e none p6.line X.env = pure false := by rfl) (hab : attributeBase (.Name n p1) f X.env (eval (.Name n p1) X.env) = eval (.Name n p1) X.env := by rfl)
    (hst : starEach [.Attribute (.Name n p1) f p2] X.env = [(false, eval (.Attribute (.Name n p1) f p2) X.env)] := by rfl) :
    PSm cl W X (.Try [.Expr e p6] [.ExceptHandler (some (.Name x np)) (some n) [.Return (some (.List [.Attribute (.Name n p1) f p2] p3)) p4] p5] [] [] pos) (mTry1 x i m) := by
  obtain ⟨C, hcl, hm, T, hno, hx⟩ := C.ex
  refine PS_imp (ps_try_as (i := i) (c := .ref C) (tb := fun W' => tDrop (tE X.K cl W' m)) (ts := fun a cls d => tRet (tLst (tCons (tXf a cls d C f (tVar i)) tNil))) (Wout := W) hs hf hN hi hln ⟨hg, hdb, .inl hm⟩ tk
    (fun W' pn xe tk' _ => pss_one (ps_expr (hb W' pn xe tk') hsw)) (fun a oe cls d pn hz hfl => pss_one (ps_ret (pe_lst (pa_cons (pe_xf T hno hz hfl (pe_var (X := X.suite a ((a, oe) :: pn)) hi hv hdn hcn) hab) pa_nil hst))))) fun D σ H h => ?_
  obtain ⟨φ, ρ, S, er, sr, h⟩ := h
  refine ⟨φ, ρ, S, er, sr, ?_⟩
  unfold mTry1 at h
  cases q : m ρ S with
  | ok d S' =>
    rw [q] at h
    exact fun φ' H' x' s' v r => h φ' H' x' s' σ (er.mono x')
  | bad => rw [q] at h; exact False.elim h
  | exc c' d S' =>
    rw [q] at h
    intro φ' H' x' s' C' f' dx v hc' rv hd
    have ex := hx c' C' f' hc'
    by_cases e1 : c' = x
    · subst e1
      rw [hcl] at hc'; cases hc'
      have h : post X.K cl (fun c d H' => ∀ σ', W c d σ' H') φ H (if c' = c' then (if i < ρ.length then Rs.ok (Fl.rt (.lst [d])) S' else .bad) else .exc c' d S') fun f _ φ' H' => endsOf X.K D f φ' H' := h
      rw [if_pos rfl] at h
      by_cases hl : i < ρ.length
      · rw [if_pos hl] at h
        refine ⟨true, by rw [ex]; simp, fun _ a na => ?_, fun (z : true = false) => Bool.noConfusion z⟩
        refine ⟨.ref a, List.getElem?_set_self (by rw [← er.len]; exact hl), rfl, rfl, dx, _, v, rfl, hd, by simp [List.lookup], ?_⟩
        refine ⟨by simp [sizeLine_eq], fun p np => ?_⟩
        exact h φ' _ (x'.trans (Ext.out s' np)) (s'.out np) _ (Rep.newLst s' np ⟨v, [], rfl, rv, rfl⟩)
      · rw [if_neg hl] at h; exact False.elim h
    · have h : post X.K cl (fun c d H' => ∀ σ', W c d σ' H') φ H (if c' = x then (if i < ρ.length then Rs.ok (Fl.rt (.lst [d])) S' else .bad) else .exc c' d S') fun f _ φ' H' => endsOf X.K D f φ' H' := h
      rw [if_neg e1] at h
      exact ⟨false, by rw [ex]; simp [e1], fun (z : false = true) => Bool.noConfusion z, fun _ => h φ' H' x' s' C' f' dx v hc' rv hd σ⟩
end
end ML

set_option Elab.async false
set_option linter.all false
set_option maxRecDepth 100000
set_option maxHeartbeats 1000000
/-! ML: len(set(xs)), xs a list of texts. -/
namespace ML
open PySem PySem.Spec L2
open PyProof.Rows hiding St

/-- how many unlike texts stand among the first -/
def cntS (xs : List Str) : Nat → Nat
  | 0 => 0
  | i + 1 => if (xs.take i).any (· == xs.getD i Str.empty) = true then cntS xs i else cntS xs i + 1
theorem cntS_le (xs : List Str) : ∀ i, cntS xs i ≤ i
  | 0 => Nat.le_refl _
  | i + 1 => by
    have := cntS_le xs i
    unfold cntS
    split <;> omega
theorem cntS_nodup {xs : List Str} (h : xs.Nodup) : ∀ i, i ≤ xs.length → cntS xs i = i
  | 0, _ => rfl
  | i + 1, hi => by
    have hl : i < xs.length := hi
    unfold cntS
    rw [if_neg ?_, cntS_nodup h i (Nat.le_of_lt hl)]
    intro z
    obtain ⟨y, hy, e⟩ := List.any_eq_true.mp z
    have e2 : y = xs[i] := by
      rw [beq_iff_eq] at e
      rw [e, List.getD_eq_getElem?_getD, List.getElem?_eq_getElem hl]; rfl
    obtain ⟨j, hj, e3⟩ := List.getElem_of_mem hy
    have hj' : j < i := by rw [List.length_take] at hj; omega
    rw [List.getElem_take] at e3
    exact List.pairwise_iff_getElem.mp h j i (by omega) hl hj' (e3.trans e2)
theorem anyS_succ {xs : List Str} {i : Nat} (h : i < xs.length) (k : Str) : ((xs.take (i + 1)).any (· == k)) = ((xs.take i).any (· == k) || decide (k = xs.getD i Str.empty)) := by
  have e : xs.take (i + 1) = xs.take i ++ [xs.getD i Str.empty] := by
    rw [List.take_succ, List.getElem?_eq_getElem h, List.getD_eq_getElem?_getD, List.getElem?_eq_getElem h]; rfl
  rw [e, List.any_append]
  congr 1
  show ((xs.getD i Str.empty == k) || false) = _
  rw [Bool.or_false, Bool.eq_iff_iff]
  simp only [beq_iff_eq, decide_eq_true_eq]
  exact ⟨fun z => z.symm, fun z => z.symm⟩
section
variable {P : Program} {w : World} {B : Around} {R : Result → Shared → Prop} {J : Addr} {fp wr : List Addr} {G : Array GenState → Array GenState → Prop} {n : Nat} {Pv : Nat → Value → Prop} {Sv : Nat → Shared → Prop}
abbrev TxAt (P : Program) (w : World) (D : Addr) (xs : List Str) (i : Nat) (h : Heap) : Prop := h.SetOf (PySem.strKind P w) D (fun k => (xs.take i).any (· == k)) (cntS xs i)
theorem TxAt.on {D : Addr} {xs : List Str} {i : Nat} {h h' : Heap} (t : TxAt P w D xs i h) (k : ∀ o, h.get? D = some o → h'.get? D = some o) : TxAt P w D xs i h' :=
  let ⟨o, es, ep, tb, ho, r⟩ := t; ⟨o, es, ep, tb, k o ho, r⟩
theorem loopTx (W : WalksS P w B.in1 J fp wr G n Pv Sv) (D : Addr) (nf : D ∉ fp) (xs : List Str) (hz : xs.length = n) (hb : n + 1 < scanBound) (hv : ∀ i u, Pv i u → ∃ t, u = .str (xs.getD i Str.empty) t) :
    ∀ (m i : Nat) (t : Shared), i + m = n → Sv i t → TxAt P w D xs i t.heap → (∀ t', Moved (D :: wr) G t t' → TxAt P w D xs n t'.heap → R (.ok (.ret .none)) t') → codeAny (model P w) B (.builtin "set.update.loop" ⟨[.ref D, .ref J], []⟩) R t := by
  have nw : D ∉ wr := fun z => nf (W.sub _ z)
  have up : ∀ b ∈ wr, b ∈ D :: wr := fun b q => List.mem_cons_of_mem _ q
  intro m
  induction m with
  | zero =>
    intro i t e st hS done
    obtain rfl : i = n := e
    refine codeAny_builtin F.entry_set_update_loop ?_
    rw [Around.under_plainId F.plain_set_update_loop _]
    show wpAny _ B.in1 (pyNext (.ref J) >>= _) _ _ t
    exact wpAny_bind (W.done t _ _ st fun t' mv => wpAny_pure (done t' (mv.mono up) (hS.on fun o q => mv.heap D o nw q)))
  | succ m ih =>
    intro i t e st hS done
    have hi : i < n := by omega
    refine codeAny_builtin F.entry_set_update_loop ?_
    rw [Around.under_plainId F.plain_set_update_loop _]
    show wpAny _ B.in1 (pyNext (.ref J) >>= _) _ _ t
    refine wpAny_bind (W.item i t _ _ hi st fun u t' hu st' mv => ?_)
    obtain ⟨tk, rfl⟩ := hv i u hu
    have hS1 : TxAt P w D xs i t'.heap := hS.on fun o q => mv.heap D o nw q
    show wpAny _ B.in1 (holding [Value.str (xs.getD i Str.empty) tk] (setAdd D (.str (xs.getD i Str.empty) tk)) >>= _) _ _ t'
    refine wpAny_bind (wpAny_holding ?_)
    unfold setAdd
    refine wpAny_holding (wpAny_bind ((PySem.strKind P w).pyHash (k := xs.getD i Str.empty) (strKind_is _ _ _ _) ?_))
    have hc := cntS_le xs i
    refine wpAny_setAddHashed_of (knd := PySem.strKind P w) (s := { t' with toks := t'.toks + 1 }) (strKind_is _ _ _ _) rfl hS1 (by omega) fun h' sb hS2 => ?_
    have hS3 : TxAt P w D xs (i + 1) h' := SetOf_congr hS2 (fun k => (anyS_succ (by omega) k).symm) rfl
    refine wpAny_pure ⟨plainId_quiet F.plain_set_update_loop _, ih (i + 1) _ (by omega) (W.frame _ t' _ _ st' (Nat.le_succ _) fun b q o z => ?_) hS3 fun t2 mv2 q => ?_⟩
    · rw [sb.2 b (fun z : b = D => nf (z ▸ q))]; exact z
    · refine done t2 (Moved.trans W.gtrans ((mv.mono up).then_heap (Nat.le_succ _) fun b o q z => ?_) mv2) q
      rw [sb.2 b (fun z : b = D => q (z ▸ List.mem_cons_self))]; exact z
end
section
variable {P : Program} {w : World} {B : Around} {E : Value → Shared → Prop} {t : Shared}
set_option maxHeartbeats 3200000 in
/-- set(xs) -/
theorem set_txs {l : Addr} {its : Array Value} {xs : List Str} {Q : Value → Shared → Prop} (nh : B.handled = none) (isl : t.heap.IsList l its) (ist : StrsAre its.toList xs) (few : xs.length + 1 < scanBound)
    (k : ∀ (h' : Heap) (tk : Nat), TxAt P w t.heap.objs.size xs xs.length h' → (∀ b o, b < t.heap.objs.size → t.heap.get? b = some o → h'.get? b = some o) → Q (.ref t.heap.objs.size) { t with heap := h', toks := tk }) :
    wpAny (model P w) B (call (.type "set") [.ref l]) Q E t := by
  obtain ⟨c, tl, hmro⟩ := PySem.F.called_set.mro
  have made := PySem.F.called_set.made
  have sub := PySem.F.called_set.sub
  have r1 := PySem.F.called_set.notType
  have r2 := PySem.F.called_set.canCreate
  have r3 := PySem.F.typeCall_set_1 (.ref l)
  refine wpAny_call (codeAny_of_tree (wpAny_pure ⟨Code.quiet_builtin _ (by decide +kernel), codeAny_builtin PySem.F.entry_type_call ?_⟩))
  rw [Around.under_plain (weight_type_call_type "set" [.ref l] []) rfl]
  repeat (any_goals (first | assumption | wp_step))
  refine codeAny_mono (code_set_new_1 (.ref l) (E := E) (Q₁ := fun ob t1 => ∃ g : Bool, ob = .ref t.heap.objs.size ∧ t1 = { t with heap := t.heap.push { cls := .type "set", dict := none, data := .set #[] 0 (.fresh 0 0 g) } }) fun g => ⟨g, rfl, rfl⟩) fun r t1 hr => ?_
  cases r with
  | error e => exact hr
  | ok fl =>
    cases fl with
    | ret ob =>
      obtain ⟨g, rfl, rfl⟩ := hr
      have got : (t.heap.push { cls := .type "set", dict := none, data := .set #[] 0 (.fresh 0 0 g) }).get? t.heap.objs.size = some { cls := .type "set", dict := none, data := .set #[] 0 (.fresh 0 0 g) } := Heap.get?_push_size _ rfl
      have ty : Shared.TypeIs { t with heap := t.heap.push { cls := .type "set", dict := none, data := .set #[] 0 (.fresh 0 0 g) } } (.ref t.heap.objs.size) "set" := ⟨_, got, rfl⟩
      have li := PySem.F.called_set.init.lookup
      have bi := PySem.F.called_set.init.bind (.ref t.heap.objs.size)
      repeat (any_goals (first | assumption | wp_step))
      refine codeAny_mono (codeAny_call_builtin (R := wants (fun r t2 => r = .none ∧ ∃ h' tk, t2 = { t with heap := h', toks := tk } ∧ TxAt P w t.heap.objs.size xs xs.length h' ∧ (∀ b o, b < t.heap.objs.size → t.heap.get? b = some o → h'.get? b = some o)) E)
        PySem.F.called_set.init.plain PySem.F.entry_set_init (check_set_init_1 ty ?_)) fun r' t2 hr' => ?_
      · obtain ⟨ol, hol, hcl, nl, hdl⟩ := isl
        obtain ⟨ocls, odict, odata, oslots⟩ := ol
        simp only at hcl hdl
        subst hcl; subst hdl
        have hol2 : (t.heap.push { cls := .type "set", dict := none, data := .set #[] 0 (.fresh 0 0 g) }).get? l = some { cls := .type "list", dict := odict, data := .seq its nl, slots := oslots } := Heap.get?_push_of_some _ hol
        have f1 := PySem.F.sub_list_set
        have f2 := PySem.F.sub_list_frozenset
        have f3 : (Value.type "list" == Value.type "dict") = false := by decide
        have isl1 : (t.heap.push { cls := .type "set", dict := none, data := .set #[] 0 (.fresh 0 0 g) }).IsList l its := ⟨_, hol2, rfl, nl, rfl⟩
        unfold Builtin.«set.__init__» noKeywords Builtin.Frozenset.updateFrom
        generalize hIt : pyIter = It
        wp_walk
        subst hIt
        refine wpAny_pyIter_list isl1 (wpAny_bind (wpAny_runValue ?_))
        have lt1 : l < t.heap.objs.size := Heap.lt_size hol
        have nh3 : B.in1.in1.in1.handled = none := by simp [nh]
        have hsz := Heap.size_push t.heap { cls := .type "set", dict := none, data := .set #[] 0 (.fresh 0 0 g) }
        have ne1 : l ≠ (t.heap.push { cls := .type "set", dict := none, data := .set #[] 0 (.fresh 0 0 g) }).objs.size := by rw [hsz]; exact Nat.ne_of_lt (Nat.lt_succ_of_lt lt1)
        have nf : t.heap.objs.size ∉ [(t.heap.push { cls := .type "set", dict := none, data := .set #[] 0 (.fresh 0 0 g) }).objs.size, l] := by
          rw [hsz]
          simp only [List.mem_cons, List.not_mem_nil, or_false, not_or]
          exact ⟨Nat.ne_of_lt (Nat.lt_succ_self _), (Nat.ne_of_lt lt1).symm⟩
        have hn : xs.length = its.size := (StrsAre.len_eq ist).symm.trans Array.length_toList
        refine loopTx ((Walks.list nh3 _ l ne1 its).toS) t.heap.objs.size nf xs hn (by omega) (fun i v q => SS.strs_at ist i v (by rw [Array.getElem?_toList]; exact q)) its.size 0 _ (by omega) ⟨⟨_, Heap.get?_push_size _ rfl, rfl, rfl⟩, (isl1.push _)⟩ ?first ?last
        case first =>
          have got2 : ((t.heap.push { cls := .type "set", dict := none, data := .set #[] 0 (.fresh 0 0 g) }).push { cls := .type "list_iterator", data := .fields #[.ref l, .int 0 0] }).get? t.heap.objs.size = some { cls := .type "set", dict := none, data := .set #[] 0 (.fresh 0 0 g) } :=
            Heap.get?_push_of_some _ got
          exact SetOf_congr ((setObjOf_fresh (knd := PySem.strKind P w) g).setOf got2 (by unfold scanBound; omega)) (fun _ => rfl) rfl
        case last =>
          intro t' mv q
          obtain ⟨h', g', d', tk', os'⟩ := t'
          have eg : g' = t.gens := mv.gens
          have ed : d' = t.drawn := mv.drawn
          have eo : os' = t.os := mv.os
          subst eg; subst ed; subst eo
          refine wpAny_pure (wpAny_pure ⟨rfl, h', tk', rfl, by rw [hn]; exact q, fun b o lt z => ?_⟩)
          refine mv.heap b o ?_ (Heap.get?_push_of_some _ (Heap.get?_push_of_some _ z))
          rw [hsz]
          simp only [List.mem_cons, List.not_mem_nil, or_false, not_or]
          exact ⟨Nat.ne_of_lt lt, Nat.ne_of_lt (Nat.lt_succ_of_lt lt)⟩
      · cases r' with
        | error e => exact hr'
        | ok fl2 =>
          cases fl2 with
          | ret r =>
            obtain ⟨rfl, h', tk, rfl, q1, q2⟩ := hr'
            repeat (any_goals (first | assumption | wp_step))
            exact k _ _ q1 q2
          | _ => exact hr'.elim
    | _ => exact hr.elim
end

def allS : List Dt → Option (List Str)
  | [] => some []
  | .str i :: r => (allS r).map fun is => i :: is
  | _ :: _ => none
theorem allS_of : ∀ {ds : List Dt} {ns : List Str}, allS ds = some ns → ds = ns.map Dt.str
  | [], ns, h => by cases h; rfl
  | d :: r, ns, h => by
    cases d <;> try (exact absurd (show (none : Option (List Str)) = some ns from h) (fun z => nomatch z))
    rename_i i
    have h : (allS r).map (fun is => i :: is) = some ns := h
    cases q : allS r with
    | none => rw [q] at h; cases h
    | some is =>
      rw [q] at h; cases h
      rw [allS_of q]; rfl
theorem allS_map (ns : List Str) : allS (ns.map Dt.str) = some ns := by
  induction ns with
  | nil => rfl
  | cons n r ih =>
    show (allS (r.map Dt.str)).map (fun is => n :: is) = _
    rw [ih]; rfl
def fLenSet (d : Dt) (S : Sto) : Option Dt := match d with
  | .lst ds => (allS ds).bind fun xs => if xs.length ≤ 1000 then some (.int (cntS xs xs.length)) else none
  | .obj n => match S[n]? with
    | some (.lst ds) => (allS ds).bind fun xs => if xs.length ≤ 1000 then some (.int (cntS xs xs.length)) else none
    | _ => none
  | _ => none
theorem fLenSet_of {K φ S H d v d'} (s : RepS K φ S H) (r : Rep K φ H d v) (h : fLenSet d S = some d') : ∃ l xs, v = .ref l ∧ SqL K H l (xs.map V.str) ∧ xs.length ≤ 1000 ∧ d' = .int (cntS xs xs.length) := by
  have go : ∀ {ds : List Dt} {vs : List V}, Reps K φ H ds vs → ((allS ds).bind fun xs => if xs.length ≤ 1000 then some (Dt.int (cntS xs xs.length)) else none) = some d' → ∃ xs : List Str, vs = xs.map V.str ∧ xs.length ≤ 1000 ∧ d' = .int (cntS xs xs.length) := by
    intro ds vs q e
    cases z : allS ds with
    | none => rw [z] at e; cases e
    | some xs =>
      rw [z] at e
      obtain ⟨h1, h2⟩ := ifSome e
      rw [allS_of z] at q
      exact ⟨xs, q.strs, h1, h2.symm⟩
  cases d with
  | lst ds =>
    obtain ⟨a, vs, rfl, t, q⟩ := r
    obtain ⟨xs, rfl, h1, h2⟩ := go q h
    exact ⟨a, xs, rfl, t.seq, h1, h2⟩
  | obj n =>
    obtain ⟨a, rfl, e⟩ := r
    have h : (match S[n]? with | some (.lst ds) => (allS ds).bind fun xs => if xs.length ≤ 1000 then some (Dt.int (cntS xs xs.length)) else none | _ => none) = some d' := h
    cases z : S[n]? with
    | none => rw [z] at h; cases h
    | some o =>
      rw [z] at h
      cases o with
      | lst ds =>
        obtain ⟨vs, e1, e2⟩ := s.ob n a _ e z
        obtain ⟨xs, rfl, h1, h2⟩ := go e2 h
        exact ⟨a, xs, rfl, .inl (.inl e1), h1, h2⟩
      | dK ks xs => cases h
  | _ => exact absurd (show (none : Option Dt) = some d' from h) (fun z => nomatch z)
section
variable {cl : Cl} {W : WX} {X : Cx} {a : Expr} {p1 p2 p3 p4 : Pos} {m : Nv → Mo Dt}
theorem em_lenSet (hc : X.calm = true) (ml : X.mg "len" = none) (ms : X.mg "set" = none) (ha : PEm cl W X a m) (gl : Gl X "len" := by rfl) (gs : Gl X "set" := by rfl) (na : starEach [a] X.env = (false, eval a X.env) :: starEach [] X.env := by rfl) :
    PEm cl W X (.Call (.Name "len" p1) [.Call (.Name "set" p2) [a] [] p3] [] p4) (m1 fLenSet m) := by
  refine ⟨fun pins s σ H Q I h => Call_ (ld_blt I gl ml boot_len (callWith_builtin1 (args_cons (Call_ (ld_blt I gs ms boot_set ?_)) rfl) rfl rfl))⟩
  refine callWith_type1 (args_cons (thn (ha.run pins s σ H (fun v H1 => ∃ (l : Addr) (xs : List Str), v = .ref l ∧ SqL X.K H1 l (xs.map V.str) ∧ xs.length ≤ 1000 ∧ Q (.int (cntS xs xs.length)) H1) I ?_) fun v s1 got => args_nil ?_) na) na rfl
  · obtain ⟨φ, ρ, S, e, sr, h⟩ := h
    refine (tE.b1 (f := fun d _ => Mo.rd (fLenSet d)) e sr h).imp fun x H1 ⟨φ1, S1, d, x1, e1, s1, r1, p⟩ => ?_
    obtain ⟨d', h1, h2⟩ := p.rd
    obtain ⟨l, xs, rfl, q1, q2, rfl⟩ := fLenSet_of s1 r1 h1
    exact ⟨l, xs, rfl, q1, q2, h2 φ1 H1 (Ext.refl _ _) s1 _ rfl⟩
  · obtain ⟨x, H1, I1, r1, l, xs, rfl, hq, few, q1⟩ := got
    cases r1
    obtain ⟨its, r, pl, hz⟩ := I1.list hq
    refine set_txs (I1.ok.hd hc) pl.isList (by simpa using strsAre_of r) (by unfold scanBound; omega) fun h' tk hS hk => args_nil ?_
    have cl := cntS_le xs xs.length
    obtain ⟨o, es, ep, t, ho, hex, hd, _, _, _, hf, hn⟩ := hS
    have I2 : Inv X pins σ H1 { s1 with heap := h', toks := tk } := I1.kept fun b o e => hk b o (Heap.lt_size e) e
    exact call_len_set ho hex hd hf (by rw [hn]; omega) ⟨.int (cntS xs xs.length), H1, I2.tok _, ⟨_, by rw [hn]⟩, q1⟩
end
end ML

set_option Elab.async false
set_option linter.all false
set_option maxRecDepth 100000
set_option maxHeartbeats 1000000
/-! ML: a law's end. -/
namespace ML
open PySem PySem.Spec L2
open PyProof.Rows hiding St

section
variable {P : Program} {w : World} {K : PySem.W.Frag} {mg mb : Str → Option Value} {k : Nat} {fa a : Addr} {fd : FuncData} {x : Str} {sp : Sp} {t : Shared} {us : List Value} {ns : List Int}
abbrev EndR (t : Shared) : Result → Shared → Prop := fun r t' => r = .ok (.ret (.bool true)) ∧ OldK t.heap t'.heap ∧ t'.os = t.os ∧ AllBare t'.gens
/-- the call of the law's def, where no guard is up; nothing is followed but the script, or nothing at all -/
theorem call_from {H : Hp} (KX : K.In t.heap) (gn : t.heap.Ns mainGlobals mg) (bn : t.heap.Ns builtinsNs mb) (bb : ∀ y : Str, y ≠ "__name__" → mb y = bootBuiltins y) (lim : t.heap.NoLimit) (gg : t.gens = #[]) (room : Room k callerA)
    (ob : t.heap.get? a = some { cls := .type "list", data := .seq us.toArray }) (F : ∀ base : Heap, K.In base → base.Ns mainGlobals mg → FnG P w K mg base k fa fd [x] sp) (bd : ∀ (s : Shared) (u : Value), BindsTo s fd ⟨[u], []⟩ [(x, u)])
    (only : L2.Only H) (want : sp [.ref a] H (fun v _ => v = .bl true) fun _ _ _ => False) (hok : HOk P w H t.heap) (one : ∀ b, H b ≠ none → b = a) (nok : H a ≠ none → K.lookup a = none) : codeAny (model P w) callerA (.call (.ref fa) ⟨[.ref a], []⟩) (EndR t) t := by
  have nod : ∀ {b : Addr} {o : Obj} {es : Array DictEntry} {ep : Nat}, t.heap.get? b = some o → o.data = .dict es ep → H b = none := fun {b o es ep} e d => by
    cases q : H b with
    | none => rfl
    | some u =>
      obtain rfl : b = a := one b (by rw [q]; exact fun z => nomatch z)
      rw [ob] at e
      cases e
      exact absurd (show Data.seq us.toArray _ = Data.dict es ep from d) fun z => nomatch z
  have ns_hid : ∀ {b : Addr} {m : Str → Option Value}, t.heap.Ns b m → (hidT t.heap H).Ns b m := fun {b m} z => by
    obtain ⟨o, es, ep, e, d, r⟩ := z
    exact ⟨o, es, ep, hidT_get e (nod e d), d, r⟩
  have Kh : K.In (hidT t.heap H) := fun b o e => hidT_get (KX b o e) (by
    cases q : H b with
    | none => rfl
    | some u =>
      obtain rfl : b = a := one b (by rw [q]; exact fun z => nomatch z)
      rw [nok (by rw [q]; exact fun z => nomatch z)] at e
      cases e)
  have M : Mod K mg (hidT t.heap H) := ⟨Kh, ns_hid gn, ⟨mb, ns_hid bn, bb⟩, by obtain ⟨mc, h1, h2⟩ := lim; exact ⟨mc, ns_hid h1, h2⟩⟩
  have E0 : Env0 P w K mg (hidT t.heap H) callerA [] t H := ⟨rfl, M, fun b o e => of_hidT e, Nat.le_of_eq (hidT_size _ _), trivial, fun b hb => absurd hb (List.not_mem_nil), hok, .of_eq gg⟩
  refine codeAny_mono ((F _ Kh (ns_hid gn)).run callerA [] t H ⟨[.ref a], []⟩ [.ref a] [.ref a] _ _ room rfl E0 (bd t (.ref a)) (.cons rfl .nil) want) fun r t' h => ?_
  match r, h with
  | .error e, h =>
    obtain ⟨_, _, _, _, _, _, _, _, _, _, _, _, z⟩ := h
    exact z.elim
  | .ok .next, h => exact False.elim h
  | .ok .brk, h => exact False.elim h
  | .ok .cont, h => exact False.elim h
  | .ok (.ret u), h =>
    obtain ⟨v, H', os, bare, un, hok', r', q⟩ := h
    obtain rfl : v = .bl true := q
    obtain rfl : u = Value.bool true := r'
    refine ⟨rfl, OldK.of_keep fun b o e => ?_, os, bare⟩
    rcases only b with z | ⟨o', xs, z⟩
    · exact un.keep b o e z (fun m => absurd m List.not_mem_nil) List.not_mem_nil
    · have z2 := un.frzs b o' _ z
      obtain ⟨e1, _⟩ := hok b _ z
      obtain ⟨e2, _⟩ := hok' b _ z2
      rw [e] at e1
      cases e1
      exact e2
theorem call_law (KX : K.In t.heap) (gn : t.heap.Ns mainGlobals mg) (bn : t.heap.Ns builtinsNs mb) (bb : ∀ y : Str, y ≠ "__name__" → mb y = bootBuiltins y) (lim : t.heap.NoLimit) (gg : t.gens = #[]) (room : Room k callerA)
    (ob : t.heap.get? a = some { cls := .type "list", data := .seq us.toArray }) (is : IntsAre us ns) (hl : ns.length ≤ sizeLine) (F : ∀ base : Heap, K.In base → base.Ns mainGlobals mg → FnG P w K mg base k fa fd [x] sp)
    (bd : ∀ (s : Shared) (u : Value), BindsTo s fd ⟨[u], []⟩ [(x, u)]) (want : ∀ H : Hp, L2.Only H → SqL K H a (ns.map V.int) → sp [.ref a] H (fun v _ => v = .bl true) fun _ _ _ => False) : codeAny (model P w) callerA (.call (.ref fa) ⟨[.ref a], []⟩) (EndR t) t := by
  have rv := vals_ints is
  have ln := is.length
  cases hk : K.lookup a with
  | some o =>
    have e := KX a o hk
    rw [ob] at e
    cases e
    have on : L2.Only fun _ => none := fun _ => .inl rfl
    refine call_from (H := fun _ => none) KX gn bn bb lim gg room ob F bd on (want _ on (.inr ⟨_, us.toArray, _, hk, rfl, rfl, rfl, by rw [List.size_toArray, ln]; exact hl, by simpa using rv⟩)) (fun b u z => ?_) (fun b z => absurd rfl z) fun z => absurd rfl z
    exact absurd (show (none : Option HO) = some u from z) fun z => nomatch z
  | none =>
    let o : Obj := { cls := .type "list", data := .seq us.toArray }
    let H : Hp := fun b => if b = a then some (.frz o (.lst (ns.map V.int))) else none
    have at_ : H a = some (.frz o (.lst (ns.map V.int))) := if_pos rfl
    have off : ∀ {b}, b ≠ a → H b = none := fun h => if_neg h
    have on : L2.Only H := fun b => by
      by_cases e : b = a
      · exact .inr ⟨_, _, e ▸ at_⟩
      · exact .inl (off e)
    refine call_from (H := H) KX gn bn bb lim gg room ob F bd on (want _ on (.inl (.inr ⟨o, at_⟩))) (fun b u z => ?_) (fun b z => Classical.byContradiction fun e => z (off e)) fun _ => hk
    by_cases e : b = a
    · subst e
      rw [at_] at z
      cases z
      exact ⟨ob, by rw [List.length_map]; exact hl, us, _, rv, ob⟩
    · rw [off e] at z
      cases z
end
/-- a law whose def does what m does, and m tells True -/
theorem walk_law {l : PySem.W.OpenLaw} {n k : Nat} {q : Program} {loose : List Str} {XP : (Str → Option Value) → Heap → Prop} {YP : World → Heap → Prop} {d : DefRec} {K : Params → PySem.W.Frag} {x : Str}
    (most : l.most = some n) (few : n ≤ sizeLine) (nod : d.params.defaults = []) (room : Room k callerA) (KY : ∀ (w : World) (h : Heap), YP w h → (K w.params).In h)
    (F : ∀ (w : World) (mg : Str → Option Value) (fa : Addr) (h : Heap), (K w.params).In h → h.Ns mainGlobals mg → mg d.name = some (.ref fa) → ∃ (fd : FuncData) (cl : Cl) (m : Fm),
      (∀ (s : Shared) (u : Value), BindsTo s fd ⟨[u], []⟩ [(x, u)]) ∧ (∀ ns : List Int, ns.length ≤ n → ∃ S, m [.scr ns] [] = .ok (.bl true) S) ∧ ∀ base : Heap, (K w.params).In base → base.Ns mainGlobals mg → FnM l.prog w (K w.params) mg base cl k fa fd [x] m) :
    PySem.W.WalkO q loose XP YP l.row.toRowW d [] (fun f vs => PySem.call f vs) := by
  refine Att.attach_call most nod fun w s0 s1 mg mb fa o pm cd doc a us ns G Y ho hd hc hm ob is hl gg => ?_
  have KX := KY w _ Y
  obtain ⟨fd, cl, m, bd, law, Fm⟩ := F w mg fa _ KX G.T.g hm
  refine call_law KX G.T.g G.T.b G.T.builtins G.T.nolimit gg room ob is (Nat.le_trans hl few) Fm bd fun H on hS => ?_
  obtain ⟨S, e⟩ := law ns hl
  refine ⟨rfl, ⟨[], []⟩, [.scr ns], [], ⟨_, [], rfl, ⟨a, rfl, ?_⟩, rfl⟩, ⟨rfl, List.nodup_nil, fun i b u z => (by simp at z), fun b z => absurd z List.not_mem_nil⟩, ?_⟩
  · exact hS.elim (fun z => .inl ⟨⟨List.not_mem_nil, List.not_mem_nil⟩, z⟩) .inr
  · rw [e]
    exact fun φ' H' _ _ v r => r
end ML

set_option Elab.async false
set_option linter.all false
set_option maxRecDepth 100000
set_option maxHeartbeats 1000000
/-! ML: a list times a number as an object of the store; what a def's text must show. -/
namespace ML
open PySem PySem.Spec L2
open PyProof.Rows hiding St

def nRep (d e : Dt) : Option Ob := match d, e with
  | .lst xs, .int k => if 0 ≤ k ∧ k ≤ 1000 ∧ xs.length ≤ 100 then some (.lst (List.replicate k.toNat xs).flatten) else none
  | _, _ => none
theorem nRep_of {d e : Dt} {o : Ob} (h : nRep d e = some o) : ∃ xs k, d = .lst xs ∧ e = .int k ∧ 0 ≤ k ∧ k ≤ 1000 ∧ xs.length ≤ 100 ∧ o = .lst (List.replicate k.toNat xs).flatten := by
  match d, e, h with
  | .lst xs, .int k, h =>
    obtain ⟨⟨h1, h2, h3⟩, h4⟩ := ifSome h
    exact ⟨xs, k, rfl, rfl, h1, h2, h3, h4.symm⟩
def mRepO (ma mb : Nv → Mo Dt) : Nv → Mo Dt := fun ρ => ma ρ >>= fun d => mb ρ >>= fun e => Mo.new (nRep d e)
section
variable {cl : Cl} {W : WX} {X : Cx} {a b : Expr} {ma mb : Nv → Mo Dt} {pos : Pos}
theorem em_repO (ha : PEm cl W X a ma) (hb : PEm cl W X b mb) : PEm cl W X (.BinOp a .Mult b pos) (mRepO ma mb) := by
  refine PE_imp (pe_op op_rep ha hb) fun σ H Q h => ?_
  obtain ⟨φ, ρ, S, er, sr, h⟩ := h
  refine (tE.b1 (f := fun d ρ => mb ρ >>= fun e => Mo.new (nRep d e)) er sr h).imp fun x H1 ⟨φ1, S1, d, x1, e1, s1, r1, p⟩ => ?_
  refine (tE.b1 (f := fun e _ => Mo.new (nRep d e)) e1 s1 p).imp fun y H2 ⟨φ2, S2, e, x2, e2, s2, r2, p2⟩ => ?_
  cases q : nRep d e with
  | none => rw [q] at p2; exact False.elim p2
  | some o =>
    rw [q] at p2
    obtain ⟨xs, k, rfl, rfl, h1, h2, h3, rfl⟩ := nRep_of q
    obtain ⟨a, vs, rfl, t, z⟩ := Rep.mono x2 _ _ r1
    obtain rfl : y = .int k := r2
    refine ⟨a, k, vs, rfl, rfl, t.2, by omega, by omega, ?_, fun c n => ?_⟩
    · rw [← z.length, sizeLine_eq]
      have a1 : xs.length * k.toNat ≤ 100 * 1000 := Nat.mul_le_mul h3 (by omega)
      omega
    · refine p2 (φ2.add c) _ (Ext.new s2 n) (s2.new n ⟨_, upd_same, Reps.mono (Ext.new s2 n) _ _ (z.rep k.toNat)⟩) _ ⟨c, rfl, ?_⟩
      show (φ2.st ++ [c])[S2.length]? = some c
      rw [← s2.len, List.getElem?_append_right (Nat.le_refl _)]
      simp
end
/-- name = {..: .. for ..} on one line -/
theorem sw_dict {kx vx : Expr} {gs : List Comprehension} {scope : Scope} {pos py : Pos} {y : Str} {l : Nat} {env : Env} (fk : env.scope.kind = .function) (loc : env.scope.names.lookup y = some .local) (ln : (py.line == pos.line) = true)
    (own : (scope.names.any fun (n, k) => n == y && (k == .local || k == .cell)) = false) : swapsWith (.DictComp kx vx gs scope pos) (some (.Name y py)) l env = pure true := by
  have k1 : env.kindOf y = some .local := loc
  have k2 : env.blockKind = .function := by unfold Env.blockKind; rw [fk]; rfl
  unfold swapsWith
  simp only [k1, k2, own, Expr.pos, ln]
  rfl
theorem units64 {A : Around} {k : Nat} (r : Room k A) : A.units + 64 < cLine := r.units
theorem units1 {A : Around} {k : Nat} (r : Room k A) : A.units + 1 < cLine := hu_of r

section
variable {P : Program} {w : World} {K : PySem.W.Frag} {mg : Str → Option Value} {base : Heap} {cl : Cl}
/-- a def of the top, as it stands in the written part -/
structure Def (K : PySem.W.Frag) (mg : Str → Option Value) (x : Str) (ps : List Str) (st : Stmt) : Prop where
  ex : ∃ (f : Addr) (fd : FuncData), Fun K x x st f fd ∧ Binds K fd ps [] ∧ mg x = some (.ref f)
theorem cal_of {k n : Nat} {x : Str} {st : Stmt} {N ps : List Str} {mb : Nv → Mo Fl} (D : Def K mg x ps st) (sc : FnScope N ps (defScope st)) (hn : ps.length = n)
    (body : ∀ (f : Addr) (cd : Value) (B : Around) (out : List Env) (t : Shared) (H : Hp) (E : XK), Room k (cxOf (L2.CX P w) P w K mg base N x (defScope st) f cd B out t H E).A → (cxOf (L2.CX P w) P w K mg base N x (defScope st) f cd B out t H E).A.guards = some [] →
      Takes (cxOf (L2.CX P w) P w K mg base N x (defScope st) f cd B out t H E) (Wd E) → PassesOwn (model P w) (cxOf (L2.CX P w) P w K mg base N x (defScope st) f cd B out t H E).A (cxOf (L2.CX P w) P w K mg base N x (defScope st) f cd B out t H E).env (cxOf (L2.CX P w) P w K mg base N x (defScope st) f cd B out t H E).xe →
      PSsm cl (Wd E) (cxOf (L2.CX P w) P w K mg base N x (defScope st) f cd B out t H E) (defBody st) mb) : Cal P w K mg base cl (k + 1) x n (mDef N.length mb) := by
  obtain ⟨f, fd, F, bd, hm⟩ := D.ex
  exact ⟨f, fd, ps, FnM.of F sc fun X cd B out t H E e room gd tk px => by subst e; exact body f cd B out t H E room gd tk px, hn, hm, F.kp, bd⟩
end
section
variable {cl : Cl} {W : WX} {X : Cx} {x : Str} {pos : Pos}
/-- globals of the module -/
theorem em_gint {i : Int} (h : ∃ t, X.mg x = some (.int i t)) (hg : Gl X x := by rfl) (hd : (x == ("__debug__" : Str)) = false := by decide) : PEm cl W X (.Name x pos) (mC (.int i)) := by
  obtain ⟨t, e⟩ := h
  exact em_glob (v := .int i) e ⟨t, rfl⟩ (fun _ _ _ => rfl) hg hd
theorem em_gstr {i : Str} (h : ∃ t, X.mg x = some (.str i t)) (hg : Gl X x := by rfl) (hd : (x == ("__debug__" : Str)) = false := by decide) : PEm cl W X (.Name x pos) (mC (.str i)) := by
  obtain ⟨t, e⟩ := h
  exact em_glob (v := .str i) e ⟨t, rfl⟩ (fun _ _ _ => rfl) hg hd
theorem em_gdef {f : Addr} (h : X.mg x = some (.ref f)) (hg : Gl X x := by rfl) (hd : (x == ("__debug__" : Str)) = false := by decide) : PEm cl W X (.Name x pos) (mC (.raw (.ref f))) :=
  em_glob (v := .ref f) h rfl (fun _ _ _ => rfl) hg hd
end
theorem bt_len : bootBuiltins "len" = some (.builtin "len") := by kernel_rfl
theorem bt_sum : bootBuiltins "sum" = some (.builtin "sum") := by kernel_rfl
theorem bt_all : bootBuiltins "all" = some (.builtin "all") := by kernel_rfl
theorem bt_any : bootBuiltins "any" = some (.builtin "any") := by kernel_rfl
theorem bt_max : bootBuiltins "max" = some (.builtin "max") := by kernel_rfl
theorem bt_min : bootBuiltins "min" = some (.builtin "min") := by kernel_rfl
theorem bt_repr : bootBuiltins "repr" = some (.builtin "repr") := by kernel_rfl
theorem bt_divmod : bootBuiltins "divmod" = some (.builtin "divmod") := by kernel_rfl
theorem bt_isinstance : bootBuiltins "isinstance" = some (.builtin "isinstance") := by kernel_rfl
theorem bt_int : bootBuiltins "int" = some (.type "int") := by kernel_rfl
theorem bt_bool : bootBuiltins "bool" = some (.type "bool") := by kernel_rfl
theorem bt_str : bootBuiltins "str" = some (.type "str") := by kernel_rfl
theorem bt_tuple : bootBuiltins "tuple" = some (.type "tuple") := by kernel_rfl
theorem bt_list : bootBuiltins "list" = some (.type "list") := by kernel_rfl
theorem bt_dict : bootBuiltins "dict" = some (.type "dict") := by kernel_rfl
def bAddI : Dt → Dt → Sto → Option Dt
  | .int i, .int j, _ => some (.int (i + j))
  | _, _, _ => none
theorem sAddI {K : PySem.W.Frag} : Sd2 K bAddI (rI0 fun i j => .int (i + j)) := by
  intro φ H S d e x y d' Q s r1 r2 hf k
  cases d <;> cases e <;> try (exact absurd (show (none : Option Dt) = some d' from hf) (fun z => nomatch z))
  cases hf
  rename_i i j
  obtain rfl : x = .int i := r1
  obtain rfl : y = .int j := r2
  exact ⟨i, j, rfl, rfl, k φ H _ (Ext.refl _ _) s rfl⟩
section
variable {P : Program} {w : World} {K : PySem.W.Frag} {mg : Str → Option Value} {base : Heap} {cl : Cl} {h : Heap}
theorem fnm_of {k : Nat} {x : Str} {st : Stmt} {N ps : List Str} {mb : Nv → Mo Fl} {f : Addr} {fd : FuncData} (F : Fun K x x st f fd) (sc : FnScope N ps (defScope st))
    (body : ∀ (cd : Value) (B : Around) (out : List Env) (t : Shared) (H : Hp) (E : XK), Room k (cxOf (L2.CX P w) P w K mg base N x (defScope st) f cd B out t H E).A → (cxOf (L2.CX P w) P w K mg base N x (defScope st) f cd B out t H E).A.guards = some [] →
      Takes (cxOf (L2.CX P w) P w K mg base N x (defScope st) f cd B out t H E) (Wd E) → PassesOwn (model P w) (cxOf (L2.CX P w) P w K mg base N x (defScope st) f cd B out t H E).A (cxOf (L2.CX P w) P w K mg base N x (defScope st) f cd B out t H E).env (cxOf (L2.CX P w) P w K mg base N x (defScope st) f cd B out t H E).xe →
      PSsm cl (Wd E) (cxOf (L2.CX P w) P w K mg base N x (defScope st) f cd B out t H E) (defBody st) mb) : FnM P w K mg base cl (k + 1) f fd ps (mDef N.length mb) :=
  FnM.of F sc fun X cd B out t H E e room gd tk px => by subst e; exact body cd B out t H E room gd tk px
/-- a def known by name, at its address -/
theorem Cal.at_ {k j n : Nat} {x : Str} {m : Fm} {a : Addr} (C : Cal P w K mg base cl k x n m) (h : mg x = some (.ref a)) (hj : k ≤ j) : CalA P w K mg base cl j a n m := by
  obtain ⟨f, fd, ps, F, h1, h2, h3, h4⟩ := C.ex
  rw [h] at h2
  cases h2
  exact ⟨fd, ps, F.mono hj, h1, h3, h4⟩
/-- a def, as the head shows it -/
theorem def_mk {x : Str} {ps : List Str} {st : Stmt} {f : Addr} {oc : Value} {od an : Option Addr} {osl : Array (Option Value)} {kV doc pm cdv ct : Value} (X : K.In h) (G : h.Ns mainGlobals mg) (a : PySem.W.nsIn K mainGlobals x = some (some (.ref f)))
    (l : K.lookup f = some ⟨oc, od, .func (PySem.W.fnOf x x (defArgs st) (defBody st) (defScope st) .none kV doc pm an cdv ct), osl⟩) (c : PySem.W.codeIn K cdv x = true) (k : PySem.W.keepIn K (.ref f) = true)
    (b : ∀ (kV doc pm cdv ct : Value) (an : Option Addr) (us : List Value), us.length + 0 = ps.length → bindArgs (PySem.W.fnOf x x (defArgs st) (defBody st) (defScope st) .none kV doc pm an cdv ct) ⟨us, []⟩ = pure (ps.zip us)) : Def K mg x ps st :=
  ⟨f, _, fun_mk l c k, (fun_mk l c k).binds (ps := ps) (fun a1 a2 a3 a4 a5 a6 us hl => b _ _ _ _ _ _ us hl), PySem.W.mg_of X G a⟩
end
end ML

set_option Elab.async false
set_option linter.all false
set_option maxRecDepth 100000
set_option maxHeartbeats 1000000
/-! ML: what a function of the layer comes to (plain Lean, no program in sight). -/
namespace ML
open PySem PySem.Spec L2
open PyProof.Rows hiding St

/-- r is a value with Q, or an exception with X -/
def Ev {α : Type} (X : Str → Dt → Sto → Prop) (r : Rs α) (Q : α → Sto → Prop) : Prop := match r with
  | .ok a S => Q a S
  | .exc c d S => X c d S
  | .bad => False
abbrev NoE : Str → Dt → Sto → Prop := fun _ _ _ => False
section
variable {α β : Type} {X : Str → Dt → Sto → Prop} {Q : α → Sto → Prop}
@[simp] theorem ev_ok {a : α} {S : Sto} : Ev X (.ok a S) Q ↔ Q a S := Iff.rfl
@[simp] theorem ev_exc {c : Str} {d : Dt} {S : Sto} : Ev X (.exc c d S) Q ↔ X c d S := Iff.rfl
@[simp] theorem ev_bad : Ev X .bad Q ↔ False := Iff.rfl
theorem Ev.imp {r : Rs α} {Q' : α → Sto → Prop} (h : Ev X r Q) (f : ∀ a S, Q a S → Q' a S) : Ev X r Q' := by
  cases r with
  | ok a S => exact f a S h
  | exc c d S => exact h
  | bad => exact h
theorem Ev.no {r : Rs α} (h : Ev NoE r Q) : Ev X r Q := by
  cases r with
  | ok a S => exact h
  | exc c d S => exact h.elim
  | bad => exact h
theorem Ev.of {r : Rs α} (h : Ev NoE r Q) : ∃ a S, r = .ok a S ∧ Q a S := by
  cases r with
  | ok a S => exact ⟨a, S, rfl, h⟩
  | exc c d S => exact h.elim
  | bad => exact h.elim
/-- step by step: a value known, then on -/
theorem Ev.then {r : Rs α} {P : α → Sto → Prop} (h : Ev NoE r P) (f : ∀ a S, P a S → Q a S) : Ev X r Q := (h.no).imp f
@[simp] theorem ev_ret {a : α} {S : Sto} : Ev X (Mo.ret a S) Q ↔ Q a S := Iff.rfl
@[simp] theorem ev_pure {a : α} {S : Sto} : Ev X ((pure a : Mo α) S) Q ↔ Q a S := Iff.rfl
@[simp] theorem ev_no {S : Sto} : Ev X ((Mo.no : Mo α) S) Q ↔ False := Iff.rfl
@[simp] theorem ev_err {c : Str} {d : Dt} {S : Sto} : Ev X ((Mo.err c d : Mo α) S) Q ↔ X c d S := Iff.rfl
@[simp] theorem ev_bnd {x : Mo β} {f : β → Mo α} {S : Sto} : Ev X ((x >>= f) S) Q ↔ Ev X (x S) fun b S' => Ev X (f b S') Q := by
  cases q : x S with
  | ok a S' => rw [bnd_ok q]; rfl
  | exc c d S' => rw [bnd_exc q]; rfl
  | bad => rw [mo_bnd_bad q]; rfl
@[simp] theorem ev_rd {f : Sto → Option α} {S : Sto} : Ev X (Mo.rd f S) Q ↔ ∃ a, f S = some a ∧ Q a S := by
  cases q : f S with
  | none => rw [rd_bad q]; simp
  | some a => rw [Mo.rd_ok q]; simp
@[simp] theorem ev_wr {f : Sto → Option Sto} {S : Sto} {Q : Unit → Sto → Prop} : Ev X (Mo.wr f S) Q ↔ ∃ S', f S = some S' ∧ Q () S' := by
  cases q : f S with
  | none =>
    have : Mo.wr f S = .bad := by
      show (match f S with | some S' => Rs.ok () S' | none => .bad) = _
      rw [q]
    rw [this]; simp
  | some a => rw [Mo.wr_ok q]; simp
@[simp] theorem ev_need {p : Sto → Prop} {S : Sto} {Q : Unit → Sto → Prop} : Ev X (Mo.need p S) Q ↔ p S ∧ Q () S := by
  by_cases q : p S
  · rw [need_ok q]; simp [q]
  · rw [show Mo.need p S = .bad from if_neg q]; simp [q]
@[simp] theorem ev_nx {x : Mo α} {S : Sto} : Ev X (Mo.nx x S) Q ↔ Ev NoE (x S) Q := by
  cases q : x S with
  | ok a S' => rw [nx_ok q]; rfl
  | exc c d S' => rw [nx_bad fun a b z => by rw [q] at z; cases z]; rfl
  | bad => rw [nx_bad fun a b z => by rw [q] at z; cases z]; rfl
@[simp] theorem ev_new {o : Option Ob} {S : Sto} {Q : Dt → Sto → Prop} : Ev X (Mo.new o S) Q ↔ ∃ ob, o = some ob ∧ Q (.obj S.length) (S ++ [ob]) := by
  cases o with
  | none => simp [Mo.new]
  | some ob => simp [Mo.new]
end
def at1 (P : Dt → Prop) : List Dt → Prop
  | [d] => P d
  | _ => False
def at2 (P : Dt → Dt → Prop) : List Dt → Prop
  | [d, e] => P d e
  | _ => False
def at3 (P : Dt → Dt → Dt → Prop) : List Dt → Prop
  | [d, e, f] => P d e f
  | _ => False
@[simp] theorem at1_eq {P : Dt → Prop} {d : Dt} : at1 P [d] ↔ P d := Iff.rfl
@[simp] theorem at2_eq {P : Dt → Dt → Prop} {d e : Dt} : at2 P [d, e] ↔ P d e := Iff.rfl
@[simp] theorem at3_eq {P : Dt → Dt → Dt → Prop} {d e f : Dt} : at3 P [d, e, f] ↔ P d e f := Iff.rfl
section
variable {X : Str → Dt → Sto → Prop} {ρ : Nv} {S : Sto} {Q : Dt → Sto → Prop} {QF : Fl → Sto → Prop}
/-! expressions -/
@[simp] theorem ev_var {i : Nat} : Ev X (mVar i ρ S) Q ↔ ∃ d, (ρ[i]?).join = some d ∧ Q d S := by
  unfold mVar
  cases q : (ρ[i]?).join with
  | none => simp
  | some d => simp
@[simp] theorem ev_c {d : Dt} : Ev X (mC d ρ S) Q ↔ Q d S := Iff.rfl
@[simp] theorem ev_m1 {f : Dt → Sto → Option Dt} {ma : Nv → Mo Dt} : Ev X (m1 f ma ρ S) Q ↔ Ev X (ma ρ S) fun d S' => ∃ r, f d S' = some r ∧ Q r S' := by unfold m1; simp
@[simp] theorem ev_m2 {f : Dt → Dt → Sto → Option Dt} {ma mb : Nv → Mo Dt} : Ev X (m2 f ma mb ρ S) Q ↔ Ev X (ma ρ S) fun d S1 => Ev X (mb ρ S1) fun e S2 => ∃ r, f d e S2 = some r ∧ Q r S2 := by unfold m2; simp
@[simp] theorem ev_mn {f : List Dt → Sto → Option Dt} {ms : Nv → Mo (List Dt)} : Ev X (mn f ms ρ S) Q ↔ Ev X (ms ρ S) fun ds S' => ∃ r, f ds S' = some r ∧ Q r S' := by unfold mn; simp
@[simp] theorem ev_nil {Q : List Dt → Sto → Prop} : Ev X (mNil ρ S) Q ↔ Q [] S := Iff.rfl
@[simp] theorem ev_cons {ma : Nv → Mo Dt} {ms : Nv → Mo (List Dt)} {Q : List Dt → Sto → Prop} : Ev X (mCons ma ms ρ S) Q ↔ Ev X (ma ρ S) fun d S1 => Ev X (ms ρ S1) fun ds S2 => Q (d :: ds) S2 := by unfold mCons; simp
@[simp] theorem ev_B {m : Nv → Mo Dt} {Q : Bool → Sto → Prop} : Ev X (mB m ρ S) Q ↔ Ev X (m ρ S) fun d S' => ∃ b, d.tru = some b ∧ Q b S' := by unfold mB; simp
@[simp] theorem ev_Not {m : Nv → Mo Bool} {Q : Bool → Sto → Prop} : Ev X (mNot m ρ S) Q ↔ Ev X (m ρ S) fun b S' => Q (!b) S' := by unfold mNot; simp
@[simp] theorem ev_And {ma mb : Nv → Mo Bool} {Q : Bool → Sto → Prop} : Ev X (mAnd ma mb ρ S) Q ↔ Ev X (ma ρ S) fun b S' => if b = true then Ev X (mb ρ S') Q else Q false S' := by
  unfold mAnd
  simp only [ev_bnd]
  refine Iff.of_eq (congrArg _ (funext fun b => funext fun S' => ?_))
  cases b <;> simp
@[simp] theorem ev_Or {ma mb : Nv → Mo Bool} {Q : Bool → Sto → Prop} : Ev X (mOr ma mb ρ S) Q ↔ Ev X (ma ρ S) fun b S' => if b = true then Q true S' else Ev X (mb ρ S') Q := by
  unfold mOr
  simp only [ev_bnd]
  refine Iff.of_eq (congrArg _ (funext fun b => funext fun S' => ?_))
  cases b <;> simp
@[simp] theorem ev_AndV {ma mb : Nv → Mo Dt} : Ev X (mAndV ma mb ρ S) Q ↔ Ev X (ma ρ S) fun d S' => ∃ b, d.tru = some b ∧ if b = true then Ev X (mb ρ S') Q else Q (.bl false) S' := by
  unfold mAndV
  simp only [ev_bnd, ev_rd]
  refine Iff.of_eq (congrArg _ (funext fun d => funext fun S' => ?_))
  refine propext ⟨fun ⟨b, h1, h2⟩ => ⟨b, h1, ?_⟩, fun ⟨b, h1, h2⟩ => ⟨b, h1, ?_⟩⟩ <;> cases b <;> simpa using h2
@[simp] theorem ev_OrV {ma mb : Nv → Mo Dt} : Ev X (mOrV ma mb ρ S) Q ↔ Ev X (ma ρ S) fun d S' => ∃ b, d.tru = some b ∧ if b = true then Q (.bl true) S' else Ev X (mb ρ S') Q := by
  unfold mOrV
  simp only [ev_bnd, ev_rd]
  refine Iff.of_eq (congrArg _ (funext fun d => funext fun S' => ?_))
  refine propext ⟨fun ⟨b, h1, h2⟩ => ⟨b, h1, ?_⟩, fun ⟨b, h1, h2⟩ => ⟨b, h1, ?_⟩⟩ <;> cases b <;> simpa using h2
@[simp] theorem ev_NotV {ma : Nv → Mo Dt} : Ev X (mNotV ma ρ S) Q ↔ Ev X (ma ρ S) fun d S' => ∃ b, d.tru = some b ∧ Q (.bl !b) S' := by
  unfold mNotV
  simp only [ev_m1]
  refine Iff.of_eq (congrArg _ (funext fun d => funext fun S' => ?_))
  cases d.tru <;> simp
@[simp] theorem ev_If {α : Type} {mt : Nv → Mo Bool} {ma mb : Nv → Mo α} {Q : α → Sto → Prop} : Ev X (mIf mt ma mb ρ S) Q ↔ Ev X (mt ρ S) fun b S' => if b = true then Ev X (ma ρ S') Q else Ev X (mb ρ S') Q := by
  unfold mIf
  simp only [ev_bnd]
  refine Iff.of_eq (congrArg _ (funext fun b => funext fun S' => ?_))
  cases b <;> simp
@[simp] theorem ev_Chain {f g : Dt → Dt → Sto → Option Dt} {ma mb mc : Nv → Mo Dt} : Ev X (mChain f g ma mb mc ρ S) Q ↔ Ev X (ma ρ S) fun d S1 => Ev X (mb ρ S1) fun e S2 => ∃ t, f d e S2 = some t ∧ ∃ b, t.tru = some b ∧ if b = true then Ev X (mc ρ S2) fun k S3 => ∃ r, g e k S3 = some r ∧ Q r S3 else Q (.bl false) S2 := by
  unfold mChain
  simp only [ev_bnd, ev_rd]
  refine Iff.of_eq (congrArg _ (funext fun d => funext fun S1 => congrArg _ (funext fun e => funext fun S2 => ?_)))
  refine propext ⟨fun ⟨t, h0, b, h1, h2⟩ => ⟨t, h0, b, h1, ?_⟩, fun ⟨t, h0, b, h1, h2⟩ => ⟨t, h0, b, h1, ?_⟩⟩ <;> cases b <;> simpa using h2
@[simp] theorem ev_noP {Q : Option Int → Sto → Prop} : Ev X (mNoP ρ S) Q ↔ Q none S := Iff.rfl
@[simp] theorem ev_P {m : Nv → Mo Dt} {Q : Option Int → Sto → Prop} : Ev X (mP m ρ S) Q ↔ Ev X (m ρ S) fun d S' => ∃ i, d.asInt = some i ∧ Q (some i) S' := by
  unfold mP
  simp only [ev_bnd, ev_rd]
  refine Iff.of_eq (congrArg _ (funext fun d => funext fun S' => ?_))
  cases d.asInt <;> simp
@[simp] theorem ev_Sl {m : Nv → Mo Dt} {ml mh : Nv → Mo (Option Int)} : Ev X (mSl m ml mh ρ S) Q ↔ Ev X (m ρ S) fun d S1 => Ev X (ml ρ S1) fun lo S2 => Ev X (mh ρ S2) fun hi S3 => ∃ r, fSl d lo hi S3 = some r ∧ Q r S3 := by unfold mSl; simp
@[simp] theorem ev_New {f : List Dt → Option Ob} {ms : Nv → Mo (List Dt)} : Ev X (mNew f ms ρ S) Q ↔ Ev X (ms ρ S) fun ds S' => ∃ ob, f ds = some ob ∧ Q (.obj S'.length) (S' ++ [ob]) := by unfold mNew; simp
@[simp] theorem ev_RepO {ma mb : Nv → Mo Dt} : Ev X (mRepO ma mb ρ S) Q ↔ Ev X (ma ρ S) fun d S1 => Ev X (mb ρ S1) fun e S2 => ∃ ob, nRep d e = some ob ∧ Q (.obj S2.length) (S2 ++ [ob]) := by unfold mRepO; simp
@[simp] theorem ev_call {n : Nat} {m : Fm} {ms : Nv → Mo (List Dt)} : Ev X (mCall n m ms ρ S) Q ↔ Ev X (ms ρ S) fun ds S' => ds.length = n ∧ Ev X (m ds S') Q := by
  unfold mCall mArg
  simp only [ev_bnd]
  refine Iff.of_eq (congrArg _ (funext fun ds => funext fun S' => ?_))
  by_cases h : ds.length = n <;> simp [h]
@[simp] theorem ev_callL {i : Nat} {t : Tbl} {ms : Nv → Mo (List Dt)} : Ev X (mCallL i t ms ρ S) Q ↔ ∃ d, (ρ[i]?).join = some d ∧ ∃ nm, d.fnT t = some nm ∧ Ev X (ms ρ S) fun ds S' => ds.length = nm.1 ∧ Ev X (nm.2 ds S') Q := by
  unfold mCallL
  simp only [ev_bnd, ev_var, ev_rd]
  have e : ∀ nm : Nat × Fm, (Ev X (ms ρ S) fun ds S' => Ev X (mArg nm.1 nm.2 ds S') Q) ↔ Ev X (ms ρ S) fun ds S' => ds.length = nm.1 ∧ Ev X (nm.2 ds S') Q := fun nm => by
    refine Iff.of_eq (congrArg _ (funext fun ds => funext fun S' => ?_))
    unfold mArg
    by_cases h : ds.length = nm.1 <;> simp [h]
  simp only [e]
@[simp] theorem ev_App {mo : Nv → Mo Dt} {ms : Nv → Mo (List Dt)} : Ev X (mApp mo ms ρ S) Q ↔ Ev X (mo ρ S) fun o S1 => ∃ u, o.objL S1 = some u ∧ Ev X (ms ρ S1) fun ds S2 => ∃ S3, appO o ds S2 = some S3 ∧ Q .non S3 := by unfold mApp; simp
@[simp] theorem ev_mErr {α : Type} {c : Str} {ms : Nv → Mo (List Dt)} {Q : α → Sto → Prop} : Ev X (mErr c ms ρ S) Q ↔ Ev X (ms ρ S) fun ds S' => at1 (fun d => X c d S') ds := by
  unfold mErr
  simp only [ev_bnd]
  refine Iff.of_eq (congrArg _ (funext fun ds => funext fun S' => ?_))
  match ds with
  | [] => simp [at1]
  | [d] => simp
  | d :: e :: r => simp [at1]
/-! statements -/
@[simp] theorem ev_sNx : Ev X (mNx ρ S) QF ↔ QF (.nx ρ) S := Iff.rfl
/-- what comes behind a statement -/
def Aft (X : Str → Dt → Sto → Prop) (mb : Nv → Mo Fl) (QF : Fl → Sto → Prop) (f : Fl) (S : Sto) : Prop := match f with
  | .nx ρ => Ev X (mb ρ S) QF
  | f => QF f S
@[simp] theorem aft_nx {mb : Nv → Mo Fl} : Aft X mb QF (.nx ρ) S ↔ Ev X (mb ρ S) QF := Iff.rfl
@[simp] theorem aft_rt {mb : Nv → Mo Fl} {d : Dt} : Aft X mb QF (.rt d) S ↔ QF (.rt d) S := Iff.rfl
@[simp] theorem aft_bk {mb : Nv → Mo Fl} : Aft X mb QF (.bk ρ) S ↔ QF (.bk ρ) S := Iff.rfl
@[simp] theorem aft_ct {mb : Nv → Mo Fl} : Aft X mb QF (.ct ρ) S ↔ QF (.ct ρ) S := Iff.rfl
@[simp] theorem ev_Then {ma mb : Nv → Mo Fl} : Ev X (mThen ma mb ρ S) QF ↔ Ev X (ma ρ S) (Aft X mb QF) := by
  unfold mThen
  simp only [ev_bnd]
  refine Iff.of_eq (congrArg _ (funext fun f => funext fun S' => ?_))
  cases f <;> rfl
@[simp] theorem ev_Rt {m : Nv → Mo Dt} : Ev X (mRt m ρ S) QF ↔ Ev X (m ρ S) fun d S' => QF (.rt d) S' := by unfold mRt; simp
@[simp] theorem ev_Drop {m : Nv → Mo Dt} : Ev X (mDrop m ρ S) QF ↔ Ev X (m ρ S) fun _ S' => QF (.nx ρ) S' := by unfold mDrop; simp
@[simp] theorem ev_Set {i : Nat} {m : Nv → Mo Dt} : Ev X (mSet i m ρ S) QF ↔ Ev X (m ρ S) fun d S' => QF (.nx (ρ.set i (some d))) S' := by unfold mSet; simp
@[simp] theorem ev_Asg {t : Tg} {m : Nv → Mo Dt} : Ev X (mAsg t m ρ S) QF ↔ Ev X (m ρ S) fun d S' => ∃ ρ', t d ρ = some ρ' ∧ QF (.nx ρ') S' := by
  unfold mAsg
  simp only [ev_bnd, ev_rd]
  refine Iff.of_eq (congrArg _ (funext fun d => funext fun S' => ?_))
  cases t d ρ <;> simp
@[simp] theorem ev_Put {mo mi mv : Nv → Mo Dt} : Ev X (mPut mo mi mv ρ S) QF ↔ Ev X (mv ρ S) fun v S1 => Ev X (mo ρ S1) fun o S2 => Ev X (mi ρ S2) fun i S3 => ∃ S4, putO o i v S3 = some S4 ∧ QF (.nx ρ) S4 := by unfold mPut; simp
@[simp] theorem ev_Aug {i : Nat} {f : Dt → Dt → Sto → Option Dt} {m : Nv → Mo Dt} : Ev X (mAug i f m ρ S) QF ↔ ∃ d, (ρ[i]?).join = some d ∧ Ev X (m ρ S) fun e S' => ∃ r, f d e S' = some r ∧ QF (.nx (ρ.set i (some r))) S' := by unfold mAug; simp
@[simp] theorem ev_Par2 {i j : Nat} {ms : Nv → Mo (List Dt)} : Ev X (mPar [i, j] ms ρ S) QF ↔ Ev X (ms ρ S) fun ds S' => at2 (fun d e => QF (.nx ((ρ.set i (some d)).set j (some e))) S') ds := by
  unfold mPar
  simp only [ev_bnd, ev_rd]
  refine Iff.of_eq (congrArg _ (funext fun ds => funext fun S' => ?_))
  match ds with
  | [] => simp [at2]
  | [_] => simp [at2]
  | [d, e] => simp
  | _ :: _ :: _ :: _ => simp [at2]
@[simp] theorem ev_Par3 {i j l : Nat} {ms : Nv → Mo (List Dt)} : Ev X (mPar [i, j, l] ms ρ S) QF ↔ Ev X (ms ρ S) fun ds S' => at3 (fun d e g => QF (.nx (((ρ.set i (some d)).set j (some e)).set l (some g))) S') ds := by
  unfold mPar
  simp only [ev_bnd, ev_rd]
  refine Iff.of_eq (congrArg _ (funext fun ds => funext fun S' => ?_))
  match ds with
  | [] => simp [at3]
  | [_] => simp [at3]
  | [_, _] => simp [at3]
  | [d, e, g] => simp
  | _ :: _ :: _ :: _ :: _ => simp [at3]
@[simp] theorem ev_Try1 {c : Str} {i : Nat} {m : Nv → Mo Dt} : Ev X (mTry1 c i m ρ S) QF ↔ Ev (fun c' d S' => if c' = c then i < ρ.length ∧ QF (.rt (.lst [d])) S' else X c' d S') (m ρ S) fun _ S' => QF (.nx ρ) S' := by
  unfold mTry1
  cases q : m ρ S with
  | ok d S' => simp
  | bad => simp
  | exc c' d S' =>
    simp only [ev_exc]
    by_cases h : c' = c
    · by_cases k : i < ρ.length <;> simp [h, k]
    · simp [h]
/-- a def's end -/
def Out (Q : Dt → Sto → Prop) (f : Fl) (S : Sto) : Prop := match f with
  | .rt d => Q d S
  | .nx _ => Q .non S
  | _ => False
@[simp] theorem out_rt {d : Dt} : Out Q (.rt d) S ↔ Q d S := Iff.rfl
@[simp] theorem out_nx : Out Q (.nx ρ) S ↔ Q .non S := Iff.rfl
@[simp] theorem ev_def {n : Nat} {mb : Nv → Mo Fl} {ds : List Dt} : Ev X (mDef n mb ds S) Q ↔ Ev X (mb (nv0 n ds) S) (Out Q) := by
  unfold mDef
  cases q : mb (nv0 n ds) S with
  | ok f S' => cases f <;> rfl
  | exc c d S' => rfl
  | bad => rfl
/-! for, while, comprehensions -/
/-- a turn's end: on, out, back -/
def Trn (I : Nv → Sto → Prop) (QF : Fl → Sto → Prop) (f : Fl) (S : Sto) : Prop := match f with
  | .nx ρ => I ρ S
  | .ct ρ => I ρ S
  | .bk ρ => QF (.nx ρ) S
  | .rt d => QF (.rt d) S
@[simp] theorem trn_nx {I : Nv → Sto → Prop} : Trn I QF (.nx ρ) S ↔ I ρ S := Iff.rfl
@[simp] theorem trn_ct {I : Nv → Sto → Prop} : Trn I QF (.ct ρ) S ↔ I ρ S := Iff.rfl
@[simp] theorem trn_bk {I : Nv → Sto → Prop} : Trn I QF (.bk ρ) S ↔ QF (.nx ρ) S := Iff.rfl
@[simp] theorem trn_rt {I : Nv → Sto → Prop} {d : Dt} : Trn I QF (.rt d) S ↔ QF (.rt d) S := Iff.rfl
@[simp] theorem ev_For {mi : Nv → Mo Wk} {t : Tg} {mb : Nv → Mo Fl} : Ev X (mFor mi t mb ρ S) QF ↔ Ev X (mi ρ S) fun it S' => Ev X (forGo it.gd t mb it.items ρ S') QF := by unfold mFor; simp
@[simp] theorem ev_Walk {m : Nv → Mo Dt} {Q : Wk → Sto → Prop} : Ev X (mWalk m ρ S) Q ↔ Ev X (m ρ S) fun d S' => ∃ w, d.walk S' = some w ∧ Q w S' := by unfold mWalk; simp
theorem ev_forGo {gd : Sto → Prop} {t : Tg} {mb : Nv → Mo Fl} {I : List Dt → Nv → Sto → Prop} (turn : ∀ d r ρ S, I (d :: r) ρ S → gd S ∧ ∃ ρ1, t d ρ = some ρ1 ∧ Ev X (mb ρ1 S) (Trn (I r) QF)) (done : ∀ ρ S, I [] ρ S → gd S ∧ QF (.nx ρ) S) :
    ∀ items ρ S, I items ρ S → Ev X (forGo gd t mb items ρ S) QF
  | [], ρ, S, h => by
    unfold forGo
    simp only [ev_bnd, ev_need, ev_ret]
    exact done ρ S h
  | d :: r, ρ, S, h => by
    unfold forGo
    simp only [ev_bnd, ev_need, ev_rd]
    obtain ⟨g, ρ1, h1, h2⟩ := turn d r ρ S h
    refine ⟨g, ρ1, h1, h2.imp fun f S' q => ?_⟩
    cases f with
    | nx ρ2 => exact ev_forGo turn done r ρ2 S' q
    | ct ρ2 => exact ev_forGo turn done r ρ2 S' q
    | bk ρ2 => exact q
    | rt d => exact q
@[simp] theorem ev_Lc {mi : Nv → Mo Wk} {own : List Nat} {t : Tg} {mt : Nv → Mo Bool} {me : Nv → Mo Dt} : Ev X (mLc mi own t mt me ρ S) Q ↔ Ev X (mi ρ S) fun it S' => it.items.length ≤ cap ∧ Ev X (lcGo it.gd t mt me (nvW ρ own) [] it.items S') fun ds S'' => Q (.lst ds) S'' := by
  unfold mLc
  simp only [ev_bnd, ev_rd, ev_ret]
  refine Iff.of_eq (congrArg _ (funext fun it => funext fun S' => ?_))
  by_cases h : it.items.length ≤ cap <;> simp [h]
@[simp] theorem ev_Yes {Q : Bool → Sto → Prop} : Ev X (mYes ρ S) Q ↔ Q true S := Iff.rfl
theorem ev_lcGo {gd : Sto → Prop} {t : Tg} {mt : Nv → Mo Bool} {me : Nv → Mo Dt} {I : List Dt → List Dt → Sto → Prop} {QL : List Dt → Sto → Prop}
    (turn : ∀ ds d r S, I ds (d :: r) S → gd S ∧ ∃ ρ1, t d ρ = some ρ1 ∧ Ev NoE (mt ρ1 S) fun b S' => if b = true then Ev NoE (me ρ1 S') fun y S'' => I (ds ++ [y]) r S'' else I ds r S') (done : ∀ ds S, I ds [] S → gd S ∧ QL ds S) :
    ∀ items ds S, I ds items S → Ev X (lcGo gd t mt me ρ ds items S) QL
  | [], ds, S, h => by
    unfold lcGo
    simp only [ev_bnd, ev_need, ev_ret]
    exact done ds S h
  | d :: r, ds, S, h => by
    unfold lcGo
    simp only [ev_bnd, ev_need, ev_rd, ev_nx]
    obtain ⟨g, ρ1, h1, h2⟩ := turn ds d r S h
    refine ⟨g, ρ1, h1, h2.imp fun b S' q => ?_⟩
    cases b with
    | false => simpa using ev_lcGo turn done r ds S' (by simpa using q)
    | true =>
      simp only [if_true, ev_bnd, ev_nx] at q ⊢
      exact q.imp fun y S'' z => ev_lcGo turn done r (ds ++ [y]) S'' z
/-- a comprehension whose element changes nothing -/
theorem ev_lcGo_pure {t : Tg} {me : Nv → Mo Dt} {g : Dt → Dt} {QL : List Dt → Sto → Prop} (items : List Dt) (h : ∀ d ∈ items, ∃ ρ1, t d ρ = some ρ1 ∧ me ρ1 S = .ok (g d) S) : ∀ ds, QL (ds ++ items.map g) S → Ev X (lcGo anyGd t mYes me ρ ds items S) QL := by
  intro ds q
  refine ev_lcGo (I := fun ds r S' => S' = S ∧ (∀ d ∈ r, ∃ ρ1, t d ρ = some ρ1 ∧ me ρ1 S = .ok (g d) S) ∧ QL (ds ++ r.map g) S) (fun ds d r S' hI => ?_) (fun ds S' hI => ?_) items ds S ⟨rfl, h, q⟩
  · obtain ⟨rfl, h', q'⟩ := hI
    obtain ⟨ρ1, h1, h2⟩ := h' d List.mem_cons_self
    refine ⟨trivial, ρ1, h1, ?_⟩
    simp only [ev_Yes, if_true]
    rw [h2]
    exact ⟨rfl, fun d' hd => h' d' (List.mem_cons_of_mem _ hd), by simpa using q'⟩
  · obtain ⟨rfl, _, q'⟩ := hI
    exact ⟨trivial, by simpa using q'⟩
theorem ev_dcGo_pure {t : Tg} {mk mv : Nv → Mo Dt} {gk : Dt → Key} {g : Dt → Dt} {QL : List Key × List Dt → Sto → Prop} : ∀ (items : List Dt) (ks : List Key) (xs : List Dt), (∀ d ∈ items, ∃ ρ1 y, t d ρ = some ρ1 ∧ mk ρ1 S = .ok y S ∧ mv ρ1 S = .ok (g d) S ∧ y.key = some (gk d)) →
    QL (dputs (items.map fun d => (gk d, g d)) ks xs) S → Ev X (dcGo anyGd t mYes mk mv ρ ks xs items S) QL
  | [], ks, xs, h, q => by
    unfold dcGo
    simp only [ev_bnd, ev_need, ev_ret]
    exact ⟨trivial, q⟩
  | d :: r, ks, xs, h, q => by
    obtain ⟨ρ1, y, h1, h2, h3, h4⟩ := h d List.mem_cons_self
    unfold dcGo
    simp only [ev_bnd, ev_need, ev_rd, ev_nx, ev_Yes]
    refine ⟨trivial, ρ1, h1, ?_⟩
    simp only [if_true, ev_bnd, ev_nx, ev_rd]
    rw [h2]
    simp only [ev_ok]
    rw [h3]
    simp only [ev_ok]
    exact ⟨gk d, h4, ev_dcGo_pure r _ _ (fun d' hd => h d' (List.mem_cons_of_mem _ hd)) q⟩
@[simp] theorem ev_Dc {mi : Nv → Mo Wk} {own : List Nat} {t : Tg} {mt : Nv → Mo Bool} {mk mv : Nv → Mo Dt} : Ev X (mDc mi own t mt mk mv ρ S) Q ↔ Ev X (mi ρ S) fun it S' => it.items.length ≤ cap ∧ Ev X (dcGo it.gd t mt mk mv (nvW ρ own) [] [] it.items S') fun p S'' => Q (.dct p.1 p.2) S'' := by
  unfold mDc
  simp only [ev_bnd, ev_rd, ev_ret]
  refine Iff.of_eq (congrArg _ (funext fun it => funext fun S' => ?_))
  by_cases h : it.items.length ≤ cap <;> simp [h]
theorem ev_while {mt : Nv → Mo Bool} {mb : Nv → Mo Fl} {I : Nat → Nv → Sto → Prop} (turn : ∀ n ρ S, I n ρ S → Ev X (mt ρ S) fun b S' => if b = true then Ev X (mb ρ S') (Trn (fun ρ2 S2 => ∃ k, k < n ∧ I k ρ2 S2) QF) else QF (.nx ρ) S') (n : Nat) (ρ : Nv) (S : Sto) (h : I n ρ S) : Ev X (mWhile mt mb ρ S) QF := by
  have go : ∀ n ρ S, I n ρ S → ∃ k, Ev X (whileGo mt mb k ρ S) QF := by
    intro n
    induction n using Nat.strongRecOn with
    | _ n ih =>
      intro ρ S h
      have z := turn n ρ S h
      cases q : mt ρ S with
      | bad => rw [q] at z; exact z.elim
      | exc c d S' =>
        rw [q] at z
        refine ⟨1, ?_⟩
        unfold whileGo
        rw [ev_bnd, q]; exact z
      | ok b S' =>
        rw [q] at z
        have z : if b = true then Ev X (mb ρ S') (Trn (fun ρ2 S2 => ∃ k, k < n ∧ I k ρ2 S2) QF) else QF (.nx ρ) S' := z
        cases b with
        | false =>
          refine ⟨1, ?_⟩
          unfold whileGo
          rw [ev_bnd, q]
          simpa using z
        | true =>
          rw [if_pos rfl] at z
          have step : ∀ k, Ev X (mb ρ S') (Trn (fun ρ2 S2 => Ev X (whileGo mt mb k ρ2 S2) QF) QF) → Ev X (whileGo mt mb (k + 1) ρ S) QF := by
            intro k hk
            unfold whileGo
            rw [ev_bnd, q]
            simp only [ev_ok, if_true, ev_bnd]
            refine hk.imp fun f S2 w => ?_
            cases f <;> exact w
          cases q2 : mb ρ S' with
          | bad => rw [q2] at z; exact z.elim
          | exc c d S2 => rw [q2] at z; exact ⟨1, step 0 (by rw [q2]; exact z)⟩
          | ok f S2 =>
            rw [q2] at z
            cases f with
            | nx ρ2 =>
              obtain ⟨j, hj, hI⟩ := z
              obtain ⟨k, hk⟩ := ih j hj ρ2 S2 hI
              exact ⟨k + 1, step k (by rw [q2]; exact hk)⟩
            | ct ρ2 =>
              obtain ⟨j, hj, hI⟩ := z
              obtain ⟨k, hk⟩ := ih j hj ρ2 S2 hI
              exact ⟨k + 1, step k (by rw [q2]; exact hk)⟩
            | bk ρ2 => exact ⟨1, step 0 (by rw [q2]; exact z)⟩
            | rt d => exact ⟨1, step 0 (by rw [q2]; exact z)⟩
  obtain ⟨k, hk⟩ := go n ρ S h
  have hb : whileGo mt mb k ρ S ≠ .bad := fun e => by rw [e] at hk; exact hk
  rw [mWhile_of rfl hb]
  exact hk
end
end ML

set_option Elab.async false
set_option linter.all false
set_option maxRecDepth 100000
set_option maxHeartbeats 1000000
/-! ML: operations at known data. -/
namespace ML
open PySem PySem.Spec L2
open PyProof.Rows hiding St

section
variable {S : Sto} {i j : Int} {x y : Str} {xs ys : List Dt} {n : Nat} {d e : Dt} {b : Bool}
@[simp] theorem tru_bl : (Dt.bl b).tru = some b := rfl
@[simp] theorem asInt_int : (Dt.int i).asInt = some i := rfl
@[simp] theorem add_int : bAdd (.int i) (.int j) S = some (.int (i + j)) := rfl
@[simp] theorem addI_int : bAddI (.int i) (.int j) S = some (.int (i + j)) := rfl
@[simp] theorem sub_int : bSub (.int i) (.int j) S = some (.int (i - j)) := rfl
@[simp] theorem neg_int' : uNeg (.int i) S = some (.int (-i)) := rfl
@[simp] theorem lt_int' : cLt (.int i) (.int j) S = some (.bl (decide (i < j))) := rfl
@[simp] theorem le_int' : cLe (.int i) (.int j) S = some (.bl (decide (i ≤ j))) := rfl
@[simp] theorem gt_int' : cGt (.int i) (.int j) S = some (.bl (decide (j < i))) := rfl
@[simp] theorem ge_int' : cGe (.int i) (.int j) S = some (.bl (decide (j ≤ i))) := rfl
@[simp] theorem max_int : fMax [.int i, .int j] S = some (.int (if j > i then j else i)) := rfl
@[simp] theorem min_int : fMin [.int i, .int j] S = some (.int (if j < i then j else i)) := rfl
@[simp] theorem int_int : fInt [.int i] S = some (.int i) := rfl
theorem log_small {j : Int} (h0 : 0 < j) (h : j < 2 ^ 63) : j.natAbs.log2 < 9000 := by
  have : j.natAbs < 2 ^ 9000 := Nat.lt_of_lt_of_le (show j.natAbs < 2 ^ 63 by omega) (Nat.pow_le_pow_right (by decide) (by decide))
  exact (Nat.log2_lt (by omega)).mpr this
theorem div_int (h0 : 0 < j) (h : j < 2 ^ 63) : bDiv (.int i) (.int j) S = some (.int (i / j)) := by
  show (if 0 < j ∧ j.natAbs.log2 < 9000 then some (Dt.int (i / j)) else none) = _
  rw [if_pos ⟨h0, log_small h0 h⟩]
theorem mod_int (h0 : 0 < j) : bMod (.int i) (.int j) S = some (.int (i % j)) := if_pos h0
theorem mul_intL (h0 : -(2 ^ 63) < i) (h : i < 2 ^ 63) : bMul (.int i) (.int j) S = some (.int (i * j)) := by
  show (if mulOk i j = true then some (Dt.int (i * j)) else none) = _
  rw [if_pos]
  unfold mulOk
  have : i.natAbs < 2 ^ 63 := by omega
  simp [this]
theorem mul_intR (h0 : -(2 ^ 63) < j) (h : j < 2 ^ 63) : bMul (.int i) (.int j) S = some (.int (i * j)) := by
  show (if mulOk i j = true then some (Dt.int (i * j)) else none) = _
  rw [if_pos]
  unfold mulOk
  have : j.natAbs < 2 ^ 63 := by omega
  simp [this]
theorem pow_int (h0 : 0 ≤ j) (h : j ≤ 1000) (hi : i.natAbs < 2 ^ 64) : bPow (.int i) (.int j) S = some (.int (i ^ j.toNat)) := if_pos ⟨h0, h, hi⟩
theorem dm_int (h0 : 0 < j) (h : j < 1073741824) : fDm [.int i, .int j] S = some (.tup [.int (i / j), .int (i % j)]) := if_pos ⟨h0, h⟩
@[simp] theorem row_tup : (Dt.tup xs).row S = some xs := rfl
@[simp] theorem row_lst : (Dt.lst xs).row S = some xs := rfl
theorem row_obj (h : S[n]? = some (.lst xs)) : (Dt.obj n).row S = some xs := by
  show (match S[n]? with | some (.lst xs) => some xs | _ => none) = _
  rw [h]
@[simp] theorem len_tup : fLen [.tup xs] S = some (.int xs.length) := rfl
@[simp] theorem len_lst : fLen [.lst xs] S = some (.int xs.length) := rfl
theorem len_str (h : x.length ≤ cap) : fLen [.str x] S = some (.int x.length) := if_pos h
@[simp] theorem tpl_lst : fTpl [.lst xs] S = some (.tup xs) := rfl
@[simp] theorem tpl_tup : fTpl [.tup xs] S = some (.tup xs) := rfl
theorem tpl_obj (h : S[n]? = some (.lst xs)) : fTpl [.obj n] S = some (.tup xs) := by
  show ((Dt.obj n).row S).map Dt.tup = _
  rw [row_obj h]; rfl
theorem tup_new (h : xs.length ≤ 1000) : fTup xs S = some (.tup xs) := if_pos h
theorem lst_new (h : xs.length ≤ 1000) : fLst xs S = some (.lst xs) := if_pos h
theorem lstO_new (h : xs.length ≤ 1000) : nLst xs = some (.lst xs) := if_pos h
@[simp] theorem sum_tup {ns : List Int} : fSum [.tup (ns.map Dt.int)] S = some (.int ns.sum) := by
  show (allI (ns.map Dt.int)).map (fun ns => Dt.int ns.sum) = _
  rw [allI_map]; rfl
@[simp] theorem sum_lst {ns : List Int} : fSum [.lst (ns.map Dt.int)] S = some (.int ns.sum) := by
  show (allI (ns.map Dt.int)).map (fun ns => Dt.int ns.sum) = _
  rw [allI_map]; rfl
@[simp] theorem all_lst {bs : List Bool} : fAll [.lst (bs.map Dt.bl)] S = some (.bl (bs.all id)) := by
  show (allB (bs.map Dt.bl)).map (fun bs => Dt.bl (bs.all id)) = _
  rw [allB_map]; rfl
@[simp] theorem ix_row_tup : gIx (.tup xs) (.int i) S = atI xs i := by
  show (match atI xs i with | some x => some x | none => none) = _
  cases atI xs i <;> rfl
@[simp] theorem ix_row_lst : gIx (.lst xs) (.int i) S = atI xs i := by
  show (match atI xs i with | some x => some x | none => none) = _
  cases atI xs i <;> rfl
theorem ix_obj (h : S[n]? = some (.lst xs)) {r : Dt} (hr : atI xs i = some r) : gIx (.obj n) (.int i) S = some r := by
  show (match ((Dt.obj n).row S).bind (fun xs => atI xs i) with | some x => some x | none => _) = _
  rw [row_obj h]
  show (match atI xs i with | some x => some x | none => _) = _
  rw [hr]
theorem atI_pos {α : Type} {xs : List α} {i : Int} (h0 : 0 ≤ i) (h : i < xs.length) : atI xs i = some (xs[i.toNat]'(by omega)) := by
  unfold atI ixN
  rw [if_pos h0, if_pos (by first | exact h | exact hi)]
  simp
theorem ix_str {z : Str} (hz : z.length ≤ cap) {c : Nat} (h : atI z.cps.toList i = some c) : gIx (.str z) (.int i) S = some (.str ⟨#[c]⟩) := by
  show (match (match (Dt.str z).row S with | some xs => atI xs i | none => none) with | some x => some x | none => _) = _
  show (match (if z.length ≤ cap then (atI z.cps.toList i).map (fun c => Dt.str ⟨#[c]⟩) else none) with | some x => some x | none => _) = _
  rw [if_pos hz, h]
  rfl
theorem ix_dct {ks : List Key} {k : Str} (h : d.dict S = some (ks, xs)) (hn : ∀ i, d ≠ .str i) {r : Dt} (hr : look ks xs (.inr k) = some r) : gIx d (.str k) S = some r := by
  have e : gIx d (.str k) S = look ks xs (.inr k) := by
    have g1 : gRow d (.str k) S = none := rfl
    have g2 : gStr d (.str k) S = none := by cases d <;> rfl
    show (match gRow d (.str k) S with | some x => some x | none => (match gStr d (.str k) S with | some x => some x | none => gDic d (.str k) S)) = _
    rw [g1, g2]
    show (match (Dt.str k).key, d.dict S with | some k, some (ks, xs) => look ks xs k | _, _ => none) = _
    rw [h]; rfl
  rw [e, hr]
theorem put_dic {ks : List Key} {k : Str} (h : S[n]? = some (.dK ks xs)) (hl : ks.length < cap) : putO (.obj n) (.str k) d S = some (S.set n (.dK (dput ks xs (.inr k) d).1 (dput ks xs (.inr k) d).2)) := by
  show (match S[n]? with | some (.lst xs) => _ | some (.dK ks xs) => (Dt.str k).key.bind (fun k => if ks.length < cap then some (S.set n (.dK (dput ks xs k d).1 (dput ks xs k d).2)) else none) | none => none) = _
  rw [h]
  show (if ks.length < cap then _ else none) = _
  rw [if_pos hl]
theorem put_lst (h : S[n]? = some (.lst xs)) (h0 : 0 ≤ i) (hi : i < xs.length) : putO (.obj n) (.int i) d S = some (S.set n (.lst (xs.set i.toNat d))) := by
  show (match S[n]? with | some (.lst xs) => (Dt.int i).asInt.bind (fun k => (ixN xs.length k).map fun j => S.set n (.lst (xs.set j d))) | some (.dK ks xs) => _ | none => none) = _
  rw [h]
  show (ixN xs.length i).map (fun j => S.set n (.lst (xs.set j d))) = _
  unfold ixN
  rw [if_pos h0, if_pos (by first | exact h | exact hi)]
  rfl
theorem app_lst (h : S[n]? = some (.lst xs)) (hl : xs.length < cap) : appO (.obj n) [d] S = some (S.set n (.lst (xs ++ [d]))) := by
  show (match S[n]? with | some (.lst xs) => if xs.length < cap then some (S.set n (.lst (xs ++ [d]))) else none | _ => none) = _
  rw [h]
  exact if_pos hl
theorem objL_lst (h : S[n]? = some (.lst xs)) : (Dt.obj n).objL S = some () := by
  show (match S[n]? with | some (.lst _) => some () | _ => none) = _
  rw [h]
/-- two whole numbers -/
@[simp] theorem eq_int : cEq (.int i) (.int j) S = some (.bl (decide (i = j))) := by
  show (eqv2 (.int i) (.int j)).map Dt.bl = _
  have e : eqv2 (.int i) (.int j) = some (PyData.eqv (.int i) (.int j)) := rfl
  rw [e]
  show some (Dt.bl (i == j)) = _
  congr 2
@[simp] theorem ne_int : cNe (.int i) (.int j) S = some (.bl (!decide (i = j))) := by
  show (eqv2 (.int i) (.int j)).map (fun b => Dt.bl (!b)) = _
  have e : eqv2 (.int i) (.int j) = some (PyData.eqv (.int i) (.int j)) := rfl
  rw [e]
  show some (Dt.bl (!(i == j))) = _
  congr 2
end
end ML

set_option Elab.async false
set_option linter.all false
set_option maxRecDepth 100000
set_option maxHeartbeats 2000000
namespace Walk
open PySem PySem.Spec L2 ML
open PyProof.Rows hiding St
def clsBody : Stmt → List Stmt
  | .ClassDef (body := b) .. => b
  | _ => []
def topS (i : Nat) : Stmt := PySem.Challenge.pw_evenrates_k01_whole_needs_far_away.main.body.getD i (.Pass ⟨0, 0, 0, 0⟩)
abbrev s_is_whole : Stmt := topS 7
abbrev s_is_between : Stmt := topS 8
abbrev s_is_tuple_of : Stmt := topS 9
abbrev s_are_between : Stmt := topS 10
abbrev s_is_name : Stmt := topS 11
abbrev s_need_number : Stmt := topS 12
abbrev s_task_names : Stmt := topS 13
abbrev s_is_task : Stmt := topS 19
abbrev s_is_line : Stmt := topS 20
abbrev s_has_graph_form : Stmt := topS 21
abbrev s_fits : Stmt := topS 22
abbrev s_look_at_graph : Stmt := topS 23
abbrev s_counted : Stmt := topS 26
abbrev s_least_count : Stmt := topS 27
abbrev s_need_told : Stmt := topS 28
abbrev s_look_at_line : Stmt := topS 29
abbrev s_gave : Stmt := topS 30
abbrev s_took : Stmt := topS 31
abbrev s_need : Stmt := topS 32
abbrev s__law_source : Stmt := topS 34
abbrev s__law_pick : Stmt := topS 35
abbrev s__law_one : Stmt := topS 36
abbrev s__law_same : Stmt := topS 37
abbrev s__law_called : Stmt := topS 38
abbrev s__law_shared : Stmt := topS 39
abbrev s__law_parted : Stmt := topS 40
abbrev s__law_sum : Stmt := topS 41
abbrev s__law_far : Stmt := topS 42
abbrev s__law_digits : Stmt := topS 43
abbrev s__law_rare : Stmt := topS 44
abbrev s__law_far_line : Stmt := topS 45
abbrev s__law_rise : Stmt := topS 46
abbrev s__law_need_right : Stmt := topS 47
abbrev s__law_line_right : Stmt := topS 48
abbrev s__law_refused : Stmt := topS 49
abbrev s_law : Stmt := topS 50
/-- the written part: what the defs lean on -/
structure Tx (P : Program) (w : World) (K : PySem.W.Frag) (mg : Str → Option Value) (base : Heap) (cl : Cl) : Prop where
  d_is_whole : Def K mg "is_whole" ["thing"] s_is_whole
  d_is_between : Def K mg "is_between" ["thing", "least", "most"] s_is_between
  d_is_tuple_of : Def K mg "is_tuple_of" ["thing", "least", "most"] s_is_tuple_of
  d_are_between : Def K mg "are_between" ["thing", "least", "most"] s_are_between
  d_is_name : Def K mg "is_name" ["thing"] s_is_name
  d_need_number : Def K mg "need_number" ["thing", "least", "most"] s_need_number
  d_task_names : Def K mg "task_names" ["graph"] s_task_names
  d_is_task : Def K mg "is_task" ["thing"] s_is_task
  d_is_line : Def K mg "is_line" ["thing"] s_is_line
  d_has_graph_form : Def K mg "has_graph_form" ["thing"] s_has_graph_form
  d_fits : Def K mg "fits" ["graph", "line"] s_fits
  d_look_at_graph : Def K mg "look_at_graph" ["graph"] s_look_at_graph
  d_counted : Def K mg "counted" ["numbers", "count"] s_counted
  d_least_count : Def K mg "least_count" ["numbers", "wanted"] s_least_count
  d_need_told : Def K mg "need_told" ["line", "firing"] s_need_told
  d_look_at_line : Def K mg "look_at_line" ["graph", "line"] s_look_at_line
  d_gave : Def K mg "gave" ["graph", "line", "count"] s_gave
  d_took : Def K mg "took" ["graph", "line", "count"] s_took
  d_need : Def K mg "need" ["graph", "line", "firing"] s_need
  d__law_source : Def K mg "_law_source" ["script"] s__law_source
  d__law_pick : Def K mg "_law_pick" ["s", "many"] s__law_pick
  d__law_one : Def K mg "_law_one" ["s", "some"] s__law_one
  d__law_same : Def K mg "_law_same" ["one", "other"] s__law_same
  d__law_called : Def K mg "_law_called" ["s", "many"] s__law_called
  d__law_shared : Def K mg "_law_shared" ["one", "other"] s__law_shared
  d__law_parted : Def K mg "_law_parted" ["s", "total", "places"] s__law_parted
  d__law_sum : Def K mg "_law_sum" ["row", "count"] s__law_sum
  d__law_far : Def K mg "_law_far" ["line", "firing"] s__law_far
  d__law_digits : Def K mg "_law_digits" ["s", "places"] s__law_digits
  d__law_rare : Def K mg "_law_rare" ["s", "places"] s__law_rare
  d__law_far_line : Def K mg "_law_far_line" ["s"] s__law_far_line
  d__law_rise : Def K mg "_law_rise" ["line", "firing"] s__law_rise
  d__law_need_right : Def K mg "_law_need_right" ["graph", "number", "firing"] s__law_need_right
  d__law_line_right : Def K mg "_law_line_right" ["s", "graph", "number"] s__law_line_right
  d__law_refused : Def K mg "_law_refused" ["call", "rows"] s__law_refused
  d_law : Def K mg "law" ["script"] s_law
  g_FIGURES : ∃ t, mg "FIGURES" = some (.str "0123456789" t)
  g_LETTERS : ∃ t, mg "LETTERS" = some (.str "abcdefghijklmnopqrstuvwxyz" t)
  g_MOST_FIRINGS : ∃ t, mg "MOST_FIRINGS" = some (.int 100000 t)
  g_MOST_LINES : ∃ t, mg "MOST_LINES" = some (.int 60 t)
  g_MOST_PHASES : ∃ t, mg "MOST_PHASES" = some (.int 24 t)
  g_MOST_STOCK : ∃ t, mg "MOST_STOCK" = some (.int 99999 t)
  g_MOST_TASKS : ∃ t, mg "MOST_TASKS" = some (.int 24 t)
  b_all : mg "all" = none
  b_bool : mg "bool" = none
  b_divmod : mg "divmod" = none
  b_int : mg "int" = none
  b_isinstance : mg "isinstance" = none
  b_len : mg "len" = none
  b_list : mg "list" = none
  b_max : mg "max" = none
  b_min : mg "min" = none
  b_range : mg "range" = none
  b_repr : mg "repr" = none
  b_set : mg "set" = none
  b_str : mg "str" = none
  b_sum : mg "sum" = none
  b_tuple : mg "tuple" = none
  r_BadGraph : Rai P w K mg base cl 1 "BadGraph"
  r_BadNumber : Rai P w K mg base cl 1 "BadNumber"
  t_BadNumber : Cat K mg cl "BadNumber" "value"
section
variable {P : Program} {w : World} {K : PySem.W.Frag} {mg : Str → Option Value} {base : Heap} {cl : Cl}
noncomputable def m_is_whole : Fm := mDef 1 (mRt (mAndV (mn fIsi (mCons (mVar 0) (mCons (mC (.raw (.ty "int"))) mNil))) (mNotV (mn fIsi (mCons (mVar 0) (mCons (mC (.raw (.ty "bool"))) mNil))))))
theorem ok_is_whole (z : Tx P w K mg base cl) : Cal P w K mg base cl 1 "is_whole" 1 m_is_whole := by
  have nd : (["thing"] : List Str).Nodup := by decide +kernel
  refine cal_of (N := ["thing"]) z.d_is_whole ⟨rfl, rfl, rfl, nd, rfl, by decide +kernel, by decide +kernel⟩ rfl fun f cd B out t H E room gd tk px => ?_
  exact (ssm_one (sm_ret (em_and (em_callB call_isi sIsi z.b_isinstance bt_isinstance (am_cons (em_var 0) (am_cons (em_ty z.b_int bt_int) am_nil))) (em_one (em_not (em_callB call_isi sIsi z.b_isinstance bt_isinstance (am_cons (em_var 0) (am_cons (em_ty z.b_bool bt_bool) am_nil))))))))
noncomputable def m_is_between : Fm := mDef 3 (mRt (mAndV (mCall 1 m_is_whole (mCons (mVar 0) mNil)) (mChain cLe cLe (mVar 1) (mVar 0) (mVar 2))))
theorem ok_is_between (z : Tx P w K mg base cl) : Cal P w K mg base cl 2 "is_between" 3 m_is_between := by
  have c_is_whole := ok_is_whole z
  have nd : (["thing", "least", "most"] : List Str).Nodup := by decide +kernel
  refine cal_of (N := ["thing", "least", "most"]) z.d_is_between ⟨rfl, rfl, rfl, nd, rfl, by decide +kernel, by decide +kernel⟩ rfl fun f cd B out t H E room gd tk px => ?_
  exact (ssm_one (sm_ret (em_and (em_call c_is_whole room gd tk (am_cons (em_var 0) am_nil)) (em_one (em_chain op_le op_le sCmp sCmp (em_var 1) (em_var 0) (em_var 2))))))
noncomputable def m_is_tuple_of : Fm := mDef 3 (mRt (mAndV (mn fIsi (mCons (mVar 0) (mCons (mC (.raw (.ty "tuple"))) mNil))) (mChain cLe cLe (mVar 1) (mn fLen (mCons (mVar 0) mNil)) (mVar 2))))
theorem ok_is_tuple_of (z : Tx P w K mg base cl) : Cal P w K mg base cl 1 "is_tuple_of" 3 m_is_tuple_of := by
  have nd : (["thing", "least", "most"] : List Str).Nodup := by decide +kernel
  refine cal_of (N := ["thing", "least", "most"]) z.d_is_tuple_of ⟨rfl, rfl, rfl, nd, rfl, by decide +kernel, by decide +kernel⟩ rfl fun f cd B out t H E room gd tk px => ?_
  exact (ssm_one (sm_ret (em_and (em_callB call_isi sIsi z.b_isinstance bt_isinstance (am_cons (em_var 0) (am_cons (em_ty z.b_tuple bt_tuple) am_nil))) (em_one (em_chain op_le op_le sCmp sCmp (em_var 1) (em_callB c_len sLen z.b_len bt_len (am_cons (em_var 0) am_nil)) (em_var 2))))))
noncomputable def m_are_between : Fm := mDef 4 (mRt (mAndV (mn fIsi (mCons (mVar 0) (mCons (mC (.raw (.ty "tuple"))) mNil))) (mn fAll (mCons (mLc (mWalk (mVar 0)) [3] (gN 3) mYes (mCall 3 m_is_between (mCons (mVar 3) (mCons (mVar 1) (mCons (mVar 2) mNil))))) mNil))))
theorem ok_are_between (z : Tx P w K mg base cl) : Cal P w K mg base cl 3 "are_between" 3 m_are_between := by
  have c_is_between := ok_is_between z
  have nd : (["thing", "least", "most", "number"] : List Str).Nodup := by decide +kernel
  refine cal_of (N := ["thing", "least", "most", "number"]) z.d_are_between ⟨rfl, rfl, rfl, nd, rfl, by decide +kernel, by decide +kernel⟩ rfl fun f cd B out t H E room gd tk px => ?_
  exact (ssm_one (sm_ret (em_and (em_callB call_isi sIsi z.b_isinstance bt_isinstance (am_cons (em_var 0) (am_cons (em_ty z.b_tuple bt_tuple) am_nil))) (em_one (em_callB (cr_all rfl) sAll z.b_all bt_all (am_cons (em_lc rfl nd (im_any (em_var 0)) (blkOk_by (own := [("number", 3)]) (by rfl)) (fun _ _ _ _ _ => (gm_name nd)) (fun _ _ _ _ _ => tsm_nil) (fun _ _ _ _ _ => (em_call c_is_between room gd takes0 (am_cons (em_var 3) (am_cons (em_var 1) (am_cons (em_var 2) am_nil)))))) am_nil))))))
noncomputable def m_is_name : Fm := mDef 2 (mThen (mIf (mOr (mNot (mB (mn fIsi (mCons (mVar 0) (mCons (mC (.raw (.ty "str"))) mNil))))) (mOr (mNot (mB (mChain cLe cLe (mC (.int 1)) (mn fLen (mCons (mVar 0) mNil)) (mC (.int 8))))) (mB (m2 cNi (m2 gIx (mVar 0) (mC (.int 0))) (mC (.str "abcdefghijklmnopqrstuvwxyz")))))) (mRt (mC (.bl false))) mNx)
  (mRt (mn fAll (mCons (mLc (mWalk (mVar 0)) [1] (gN 1) mYes (m2 cIn (mVar 1) (m2 bAdd (mC (.str "abcdefghijklmnopqrstuvwxyz")) (mC (.str "0123456789"))))) mNil))))
theorem ok_is_name (z : Tx P w K mg base cl) : Cal P w K mg base cl 1 "is_name" 1 m_is_name := by
  have nd : (["thing", "sign"] : List Str).Nodup := by decide +kernel
  refine cal_of (N := ["thing", "sign"]) z.d_is_name ⟨rfl, rfl, rfl, nd, rfl, by decide +kernel, by decide +kernel⟩ rfl fun f cd B out t H E room gd tk px => ?_
  exact (ssm_cons (sm_if (tw_pt (tw_or (tm_not (tm_val (em_callB call_isi sIsi z.b_isinstance bt_isinstance (am_cons (em_var 0) (am_cons (em_ty z.b_str bt_str) am_nil))))) (tw_or (tm_not (tm_chain op_le op_le sCmp sCmp em_int (em_callB c_len sLen z.b_len bt_len (am_cons (em_var 0) am_nil)) em_int)) (tw_or1 (tm_cmp (op_ni3 (units1 room)) sNi (em_ix (units1 room) (em_var 0) em_int) (em_gstr z.g_LETTERS) rfl))))) (ssm_one (sm_ret em_bl)) ssm_nil)
      (ssm_one (sm_ret (em_callB (cr_all rfl) sAll z.b_all bt_all (am_cons (em_lc rfl nd (im_any (em_var 0)) (blkOk_by (own := [("sign", 1)]) (by rfl)) (fun _ _ _ _ _ => (gm_name nd)) (fun _ _ _ _ _ => tsm_nil) (fun _ _ _ _ _ => (em_cmp (op_in3 (units1 room)) sIn (em_var 1) (em_op op_add4 sAdd (em_gstr z.g_LETTERS) (em_gstr z.g_FIGURES)) rfl))) am_nil)))))
noncomputable def m_need_number : Fm := mDef 3 (mIf (mNot (mB (mCall 3 m_is_between (mCons (mVar 0) (mCons (mVar 1) (mCons (mVar 2) mNil)))))) (mErr "BadNumber" (mCons (mVar 0) mNil)) mNx)
theorem ok_need_number (z : Tx P w K mg base cl) : Cal P w K mg base cl 3 "need_number" 3 m_need_number := by
  have c_is_between := ok_is_between z
  have nd : (["thing", "least", "most"] : List Str).Nodup := by decide +kernel
  refine cal_of (N := ["thing", "least", "most"]) z.d_need_number ⟨rfl, rfl, rfl, nd, rfl, by decide +kernel, by decide +kernel⟩ rfl fun f cd B out t H E room gd tk px => ?_
  exact (ssm_one (sm_if (tm_not (tm_val (em_call c_is_between room gd tk (am_cons (em_var 0) (am_cons (em_var 1) (am_cons (em_var 2) am_nil)))))) (ssm_one (sm_raise z.r_BadNumber room rfl tk (am_cons (em_var 0) am_nil))) ssm_nil))
noncomputable def m_task_names : Fm := mDef 2 (mRt (mLc (mWalk (m2 gIx (mVar 0) (mC (.int 0)))) [1] (gN 1) mYes (m2 gIx (mVar 1) (mC (.int 0)))))
theorem ok_task_names (z : Tx P w K mg base cl) : Cal P w K mg base cl 1 "task_names" 1 m_task_names := by
  have nd : (["graph", "task"] : List Str).Nodup := by decide +kernel
  refine cal_of (N := ["graph", "task"]) z.d_task_names ⟨rfl, rfl, rfl, nd, rfl, by decide +kernel, by decide +kernel⟩ rfl fun f cd B out t H E room gd tk px => ?_
  exact (ssm_one (sm_ret (em_lc rfl nd (im_any (em_ix (units1 room) (em_var 0) em_int)) (blkOk_by (own := [("task", 1)]) (by rfl)) (fun _ _ _ _ _ => (gm_name nd)) (fun _ _ _ _ _ => tsm_nil) (fun _ _ _ _ _ => (em_ix (units1 room) (em_var 1) em_int)))))
noncomputable def m_is_task : Fm := mDef 1 (mThen (mIf (mOr (mNot (mB (mCall 3 m_is_tuple_of (mCons (mVar 0) (mCons (mC (.int 2)) (mCons (mC (.int 2)) mNil)))))) (mNot (mB (mCall 1 m_is_name (mCons (m2 gIx (mVar 0) (mC (.int 0))) mNil))))) (mRt (mC (.bl false))) mNx)
  (mRt (mAndV (mCall 3 m_is_tuple_of (mCons (m2 gIx (mVar 0) (mC (.int 1))) (mCons (mC (.int 1)) (mCons (mC (.int 24)) mNil)))) (mCall 3 m_are_between (mCons (m2 gIx (mVar 0) (mC (.int 1))) (mCons (mC (.int 1)) (mCons (mC (.int 99)) mNil)))))))
theorem ok_is_task (z : Tx P w K mg base cl) : Cal P w K mg base cl 4 "is_task" 1 m_is_task := by
  have c_are_between := ok_are_between z
  have c_is_name := ok_is_name z
  have c_is_tuple_of := ok_is_tuple_of z
  have nd : (["thing"] : List Str).Nodup := by decide +kernel
  refine cal_of (N := ["thing"]) z.d_is_task ⟨rfl, rfl, rfl, nd, rfl, by decide +kernel, by decide +kernel⟩ rfl fun f cd B out t H E room gd tk px => ?_
  exact (ssm_cons (sm_if (tw_pt (tw_or (tm_not (tm_val (em_call c_is_tuple_of room gd tk (am_cons (em_var 0) (am_cons em_int (am_cons em_int am_nil)))))) (tw_or1 (tm_not (tm_val (em_call c_is_name room gd tk (am_cons (em_ix (units1 room) (em_var 0) em_int) am_nil))))))) (ssm_one (sm_ret em_bl)) ssm_nil)
      (ssm_one (sm_ret (em_and (em_call c_is_tuple_of room gd tk (am_cons (em_ix (units1 room) (em_var 0) em_int) (am_cons em_int (am_cons (em_gint z.g_MOST_PHASES) am_nil)))) (em_one (em_call c_are_between room gd tk (am_cons (em_ix (units1 room) (em_var 0) em_int) (am_cons em_int (am_cons em_int am_nil)))))))))
noncomputable def m_is_line : Fm := mDef 1 (mThen (mIf (mOr (mNot (mB (mCall 3 m_is_tuple_of (mCons (mVar 0) (mCons (mC (.int 5)) (mCons (mC (.int 5)) mNil)))))) (mOr (mNot (mB (mCall 1 m_is_name (mCons (m2 gIx (mVar 0) (mC (.int 0))) mNil)))) (mNot (mB (mCall 1 m_is_name (mCons (m2 gIx (mVar 0) (mC (.int 1))) mNil)))))) (mRt (mC (.bl false))) mNx)
  (mThen (mIf (mOr (mNot (mB (mCall 3 m_are_between (mCons (m2 gIx (mVar 0) (mC (.int 2))) (mCons (mC (.int 0)) (mCons (mC (.int 9)) mNil)))))) (mNot (mB (mCall 3 m_are_between (mCons (m2 gIx (mVar 0) (mC (.int 3))) (mCons (mC (.int 0)) (mCons (mC (.int 9)) mNil))))))) (mRt (mC (.bl false))) mNx)
  (mRt (mCall 3 m_is_between (mCons (m2 gIx (mVar 0) (mC (.int 4))) (mCons (mC (.int 0)) (mCons (mC (.int 99999)) mNil)))))))
theorem ok_is_line (z : Tx P w K mg base cl) : Cal P w K mg base cl 4 "is_line" 1 m_is_line := by
  have c_are_between := ok_are_between z
  have c_is_between := ok_is_between z
  have c_is_name := ok_is_name z
  have c_is_tuple_of := ok_is_tuple_of z
  have nd : (["thing"] : List Str).Nodup := by decide +kernel
  refine cal_of (N := ["thing"]) z.d_is_line ⟨rfl, rfl, rfl, nd, rfl, by decide +kernel, by decide +kernel⟩ rfl fun f cd B out t H E room gd tk px => ?_
  exact (ssm_cons (sm_if (tw_pt (tw_or (tm_not (tm_val (em_call c_is_tuple_of room gd tk (am_cons (em_var 0) (am_cons em_int (am_cons em_int am_nil)))))) (tw_or (tm_not (tm_val (em_call c_is_name room gd tk (am_cons (em_ix (units1 room) (em_var 0) em_int) am_nil)))) (tw_or1 (tm_not (tm_val (em_call c_is_name room gd tk (am_cons (em_ix (units1 room) (em_var 0) em_int) am_nil)))))))) (ssm_one (sm_ret em_bl)) ssm_nil)
      (ssm_cons (sm_if (tw_pt (tw_or (tm_not (tm_val (em_call c_are_between room gd tk (am_cons (em_ix (units1 room) (em_var 0) em_int) (am_cons em_int (am_cons em_int am_nil)))))) (tw_or1 (tm_not (tm_val (em_call c_are_between room gd tk (am_cons (em_ix (units1 room) (em_var 0) em_int) (am_cons em_int (am_cons em_int am_nil))))))))) (ssm_one (sm_ret em_bl)) ssm_nil)
      (ssm_one (sm_ret (em_call c_is_between room gd tk (am_cons (em_ix (units1 room) (em_var 0) em_int) (am_cons em_int (am_cons (em_gint z.g_MOST_STOCK) am_nil))))))))
noncomputable def m_has_graph_form : Fm := mDef 3 (mThen (mIf (mOr (mNot (mB (mCall 3 m_is_tuple_of (mCons (mVar 0) (mCons (mC (.int 2)) (mCons (mC (.int 2)) mNil)))))) (mNot (mB (mCall 3 m_is_tuple_of (mCons (m2 gIx (mVar 0) (mC (.int 0))) (mCons (mC (.int 1)) (mCons (mC (.int 24)) mNil))))))) (mRt (mC (.bl false))) mNx)
  (mThen (mIf (mOr (mNot (mB (mCall 3 m_is_tuple_of (mCons (m2 gIx (mVar 0) (mC (.int 1))) (mCons (mC (.int 0)) (mCons (mC (.int 60)) mNil)))))) (mNot (mB (mn fAll (mCons (mLc (mWalk (m2 gIx (mVar 0) (mC (.int 0)))) [2] (gN 2) mYes (mCall 1 m_is_task (mCons (mVar 2) mNil))) mNil))))) (mRt (mC (.bl false))) mNx)
  (mRt (mn fAll (mCons (mLc (mWalk (m2 gIx (mVar 0) (mC (.int 1)))) [1] (gN 1) mYes (mCall 1 m_is_line (mCons (mVar 1) mNil))) mNil)))))
theorem ok_has_graph_form (z : Tx P w K mg base cl) : Cal P w K mg base cl 5 "has_graph_form" 1 m_has_graph_form := by
  have c_is_line := ok_is_line z
  have c_is_task := ok_is_task z
  have c_is_tuple_of := ok_is_tuple_of z
  have nd : (["thing", "line", "task"] : List Str).Nodup := by decide +kernel
  refine cal_of (N := ["thing", "line", "task"]) z.d_has_graph_form ⟨rfl, rfl, rfl, nd, rfl, by decide +kernel, by decide +kernel⟩ rfl fun f cd B out t H E room gd tk px => ?_
  exact (ssm_cons (sm_if (tw_pt (tw_or (tm_not (tm_val (em_call c_is_tuple_of room gd tk (am_cons (em_var 0) (am_cons em_int (am_cons em_int am_nil)))))) (tw_or1 (tm_not (tm_val (em_call c_is_tuple_of room gd tk (am_cons (em_ix (units1 room) (em_var 0) em_int) (am_cons em_int (am_cons (em_gint z.g_MOST_TASKS) am_nil))))))))) (ssm_one (sm_ret em_bl)) ssm_nil)
      (ssm_cons (sm_if (tw_pt (tw_or (tm_not (tm_val (em_call c_is_tuple_of room gd tk (am_cons (em_ix (units1 room) (em_var 0) em_int) (am_cons em_int (am_cons (em_gint z.g_MOST_LINES) am_nil)))))) (tw_or1 (tm_not (tm_val (em_callB (cr_all rfl) sAll z.b_all bt_all (am_cons (em_lc rfl nd (im_any (em_ix (units1 room) (em_var 0) em_int)) (blkOk_by (own := [("task", 2)]) (by rfl)) (fun _ _ _ _ _ => (gm_name nd)) (fun _ _ _ _ _ => tsm_nil) (fun _ _ _ _ _ => (em_call c_is_task room gd takes0 (am_cons (em_var 2) am_nil)))) am_nil))))))) (ssm_one (sm_ret em_bl)) ssm_nil)
      (ssm_one (sm_ret (em_callB (cr_all rfl) sAll z.b_all bt_all (am_cons (em_lc rfl nd (im_any (em_ix (units1 room) (em_var 0) em_int)) (blkOk_by (own := [("line", 1)]) (by rfl)) (fun _ _ _ _ _ => (gm_name nd)) (fun _ _ _ _ _ => tsm_nil) (fun _ _ _ _ _ => (em_call c_is_line room gd takes0 (am_cons (em_var 1) am_nil)))) am_nil))))))
noncomputable def m_fits : Fm := mDef 4 (mThen (mSet 2 (mDc (mWalk (m2 gIx (mVar 0) (mC (.int 0)))) [3] (gN 3) mYes (m2 gIx (mVar 3) (mC (.int 0))) (mn fLen (mCons (m2 gIx (mVar 3) (mC (.int 1))) mNil))))
  (mThen (mIf (mOr (mB (m2 cNi (m2 gIx (mVar 1) (mC (.int 0))) (mVar 2))) (mB (m2 cNi (m2 gIx (mVar 1) (mC (.int 1))) (mVar 2)))) (mRt (mC (.bl false))) mNx)
  (mThen (mIf (mOr (mB (m2 cNe (mn fLen (mCons (m2 gIx (mVar 1) (mC (.int 2))) mNil)) (m2 gIx (mVar 2) (m2 gIx (mVar 1) (mC (.int 0)))))) (mB (m2 cNe (mn fLen (mCons (m2 gIx (mVar 1) (mC (.int 3))) mNil)) (m2 gIx (mVar 2) (m2 gIx (mVar 1) (mC (.int 1))))))) (mRt (mC (.bl false))) mNx)
  (mRt (mAndV (m2 cGt (mn fSum (mCons (m2 gIx (mVar 1) (mC (.int 2))) mNil)) (mC (.int 0))) (m2 cGt (mn fSum (mCons (m2 gIx (mVar 1) (mC (.int 3))) mNil)) (mC (.int 0))))))))
theorem ok_fits (z : Tx P w K mg base cl) : Cal P w K mg base cl 1 "fits" 2 m_fits := by
  have nd : (["graph", "line", "phases", "task"] : List Str).Nodup := by decide +kernel
  refine cal_of (N := ["graph", "line", "phases", "task"]) z.d_fits ⟨rfl, rfl, rfl, nd, rfl, by decide +kernel, by decide +kernel⟩ rfl fun f cd B out t H E room gd tk px => ?_
  exact (ssm_cons (sm_setDc (i := 2) rfl nd (im_any (em_ix (units1 room) (em_var 0) em_int)) (blkOk_by (own := [("task", 3)]) (by rfl)) (fun _ _ _ _ _ => (gm_name nd)) (fun _ _ _ _ _ => tsm_nil) (fun _ _ _ _ _ => (em_ix (units1 room) (em_var 3) em_int)) (fun _ _ _ _ _ => (em_callB c_len sLen z.b_len bt_len (am_cons (em_ix (units1 room) (em_var 3) em_int) am_nil))) (sw_dict rfl rfl rfl (by decide +kernel)))
      (ssm_cons (sm_if (tw_pt (tw_or (tm_cmp (op_ni3 (units1 room)) sNi (em_ix (units1 room) (em_var 1) em_int) (em_var 2) rfl) (tw_or1 (tm_cmp (op_ni3 (units1 room)) sNi (em_ix (units1 room) (em_var 1) em_int) (em_var 2) rfl)))) (ssm_one (sm_ret em_bl)) ssm_nil)
      (ssm_cons (sm_if (tw_pt (tw_or (tm_cmp (op_neD (units64 room)) sNe (em_callB c_len sLen z.b_len bt_len (am_cons (em_ix (units1 room) (em_var 1) em_int) am_nil)) (em_ix (units1 room) (em_var 2) (em_ix (units1 room) (em_var 1) em_int)) rfl) (tw_or1 (tm_cmp (op_neD (units64 room)) sNe (em_callB c_len sLen z.b_len bt_len (am_cons (em_ix (units1 room) (em_var 1) em_int) am_nil)) (em_ix (units1 room) (em_var 2) (em_ix (units1 room) (em_var 1) em_int)) rfl)))) (ssm_one (sm_ret em_bl)) ssm_nil)
      (ssm_one (sm_ret (em_and (em_cmp op_gt sCmp (em_callB (c_sum rfl) sSum z.b_sum bt_sum (am_cons (em_ix (units1 room) (em_var 1) em_int) am_nil)) em_int rfl) (em_one (em_cmp op_gt sCmp (em_callB (c_sum rfl) sSum z.b_sum bt_sum (am_cons (em_ix (units1 room) (em_var 1) em_int) am_nil)) em_int rfl))))))))
noncomputable def m_look_at_graph : Fm := mDef 3 (mThen (mIf (mNot (mB (mCall 1 m_has_graph_form (mCons (mVar 0) mNil)))) (mErr "BadGraph" (mCons (mC (.str "form")) mNil)) mNx)
  (mThen (mSet 1 (mCall 1 m_task_names (mCons (mVar 0) mNil)))
  (mThen (mIf (mB (m2 cNe (m1 fLenSet (mVar 1)) (mn fLen (mCons (mVar 1) mNil)))) (mErr "BadGraph" (mCons (mC (.str "names")) mNil)) mNx)
  (mIf (mNot (mB (mn fAll (mCons (mLc (mWalk (m2 gIx (mVar 0) (mC (.int 1)))) [2] (gN 2) mYes (mCall 2 m_fits (mCons (mVar 0) (mCons (mVar 2) mNil)))) mNil)))) (mErr "BadGraph" (mCons (mC (.str "lines")) mNil)) mNx))))
theorem ok_look_at_graph (z : Tx P w K mg base cl) : Cal P w K mg base cl 6 "look_at_graph" 1 m_look_at_graph := by
  have c_fits := ok_fits z
  have c_has_graph_form := ok_has_graph_form z
  have c_task_names := ok_task_names z
  have nd : (["graph", "names", "line"] : List Str).Nodup := by decide +kernel
  refine cal_of (N := ["graph", "names", "line"]) z.d_look_at_graph ⟨rfl, rfl, rfl, nd, rfl, by decide +kernel, by decide +kernel⟩ rfl fun f cd B out t H E room gd tk px => ?_
  exact (ssm_cons (sm_if (tm_not (tm_val (em_call c_has_graph_form room gd tk (am_cons (em_var 0) am_nil)))) (ssm_one (sm_raise z.r_BadGraph room rfl tk (am_cons em_str am_nil))) ssm_nil)
      (ssm_cons (sm_set (i := 1) nd (em_call c_task_names room gd tk (am_cons (em_var 0) am_nil)))
      (ssm_cons (sm_if (tm_cmp (op_neD (units64 room)) sNe (em_lenSet rfl z.b_len z.b_set (em_var 1)) (em_callB c_len sLen z.b_len bt_len (am_cons (em_var 1) am_nil)) rfl) (ssm_one (sm_raise z.r_BadGraph room rfl tk (am_cons em_str am_nil))) ssm_nil)
      (ssm_one (sm_if (tm_not (tm_val (em_callB (cr_all rfl) sAll z.b_all bt_all (am_cons (em_lc rfl nd (im_any (em_ix (units1 room) (em_var 0) em_int)) (blkOk_by (own := [("line", 2)]) (by rfl)) (fun _ _ _ _ _ => (gm_name nd)) (fun _ _ _ _ _ => tsm_nil) (fun _ _ _ _ _ => (em_call c_fits room gd takes0 (am_cons (em_var 0) (am_cons (em_var 2) am_nil))))) am_nil)))) (ssm_one (sm_raise z.r_BadGraph room rfl tk (am_cons em_str am_nil))) ssm_nil)))))
noncomputable def m_counted : Fm := mDef 4 (mThen (mAsg (gT (gTs (gN 2) (gTs (gN 3) gTs0))) (mn fDm (mCons (mVar 1) (mCons (mn fLen (mCons (mVar 0) mNil)) mNil))))
  (mRt (m2 bAdd (m2 bMul (mVar 2) (mn fSum (mCons (mVar 0) mNil))) (mn fSum (mCons (mSl (mVar 0) mNoP (mP (mVar 3))) mNil)))))
theorem ok_counted (z : Tx P w K mg base cl) : Cal P w K mg base cl 1 "counted" 2 m_counted := by
  have nd : (["numbers", "count", "whole", "rest"] : List Str).Nodup := by decide +kernel
  refine cal_of (N := ["numbers", "count", "whole", "rest"]) z.d_counted ⟨rfl, rfl, rfl, nd, rfl, by decide +kernel, by decide +kernel⟩ rfl fun f cd B out t H E room gd tk px => ?_
  exact (ssm_cons (sm_asg (em_callB call_divmod sDm z.b_divmod bt_divmod (am_cons (em_var 1) (am_cons (em_callB c_len sLen z.b_len bt_len (am_cons (em_var 0) am_nil)) am_nil))) (gm_tup rfl (gm_cons (gm_name nd) (gm_cons (gm_name nd) gm_nil)) (gT_len (gT_len (fun _ _ _ => gT_len0)))))
      (ssm_one (sm_ret (em_op op_add4 sAdd (em_op op_mul5 sMul (em_var 2) (em_callB (c_sum rfl) sSum z.b_sum bt_sum (am_cons (em_var 0) am_nil))) (em_callB (c_sum rfl) sSum z.b_sum bt_sum (am_cons (em_slice (em_var 0) om_none (om_some (em_var 3))) am_nil))))))
noncomputable def m_least_count : Fm := mDef 6 (mThen (mSet 2 (mn fSum (mCons (mVar 0) mNil)))
  (mThen (mSet 3 (m2 bDiv (m2 bSub (mVar 1) (mC (.int 1))) (mVar 2)))
  (mThen (mSet 4 (m2 bMul (mVar 3) (mn fLen (mCons (mVar 0) mNil))))
  (mThen (mSet 5 (m2 bMul (mVar 3) (mVar 2)))
  (mThen (mWhile (mB (m2 cLt (mVar 5) (mVar 1))) (mThen (mAug 5 bAddI (m2 gIx (mVar 0) (m2 bMod (mVar 4) (mn fLen (mCons (mVar 0) mNil)))))
  (mAug 4 bAddI (mC (.int 1)))))
  (mRt (mVar 4)))))))
theorem ok_least_count (z : Tx P w K mg base cl) : Cal P w K mg base cl 1 "least_count" 2 m_least_count := by
  have nd : (["numbers", "wanted", "total", "whole", "count", "held"] : List Str).Nodup := by decide +kernel
  refine cal_of (N := ["numbers", "wanted", "total", "whole", "count", "held"]) z.d_least_count ⟨rfl, rfl, rfl, nd, rfl, by decide +kernel, by decide +kernel⟩ rfl fun f cd B out t H E room gd tk px => ?_
  exact (ssm_cons (sm_set (i := 2) nd (em_callB (c_sum rfl) sSum z.b_sum bt_sum (am_cons (em_var 0) am_nil)))
      (ssm_cons (sm_set (i := 3) nd (em_op op_fdivW sDiv (em_op op_sub sSub (em_var 1) em_int) (em_var 2)))
      (ssm_cons (sm_set (i := 4) nd (em_op op_mul5 sMul (em_var 3) (em_callB c_len sLen z.b_len bt_len (am_cons (em_var 0) am_nil))))
      (ssm_cons (sm_set (i := 5) nd (em_op op_mul5 sMul (em_var 3) (em_var 2)))
      (ssm_cons (sm_while px (tm_cmp op_lt sCmp (em_var 5) (em_var 1) rfl) (ssm_cons (sm_aug (i := 5) iop_add sAddI nd (em_ix (units1 room) (em_var 0) (em_op op_mod sMod (em_var 4) (em_callB c_len sLen z.b_len bt_len (am_cons (em_var 0) am_nil)))))
      (ssm_one (sm_aug (i := 4) iop_add sAddI nd em_int))))
      (ssm_one (sm_ret (em_var 4))))))))
noncomputable def m_need_told : Fm := mDef 2 (mRt (mn fMax (mCons (mC (.int 0)) (mCons (mCall 2 m_least_count (mCons (m2 gIx (mVar 0) (mC (.int 2))) (mCons (m2 bSub (mCall 2 m_counted (mCons (m2 gIx (mVar 0) (mC (.int 3))) (mCons (m2 bAdd (mVar 1) (mC (.int 1))) mNil))) (m2 gIx (mVar 0) (mC (.int 4)))) mNil))) mNil))))
theorem ok_need_told (z : Tx P w K mg base cl) : Cal P w K mg base cl 2 "need_told" 2 m_need_told := by
  have c_counted := ok_counted z
  have c_least_count := ok_least_count z
  have nd : (["line", "firing"] : List Str).Nodup := by decide +kernel
  refine cal_of (N := ["line", "firing"]) z.d_need_told ⟨rfl, rfl, rfl, nd, rfl, by decide +kernel, by decide +kernel⟩ rfl fun f cd B out t H E room gd tk px => ?_
  exact (ssm_one (sm_ret (em_callB (call_max2 rfl) s2I z.b_max bt_max (am_cons em_int (am_cons (em_call c_least_count room gd tk (am_cons (em_ix (units1 room) (em_var 0) em_int) (am_cons (em_op op_sub sSub (em_call c_counted room gd tk (am_cons (em_ix (units1 room) (em_var 0) em_int) (am_cons (em_op op_add4 sAdd (em_var 1) em_int) am_nil))) (em_ix (units1 room) (em_var 0) em_int)) am_nil))) am_nil)))))
noncomputable def m_look_at_line : Fm := mDef 2 (mThen (mDrop (mCall 1 m_look_at_graph (mCons (mVar 0) mNil)))
  (mDrop (mCall 3 m_need_number (mCons (mVar 1) (mCons (mC (.int 0)) (mCons (m2 bSub (mn fLen (mCons (m2 gIx (mVar 0) (mC (.int 1))) mNil)) (mC (.int 1))) mNil))))))
theorem ok_look_at_line (z : Tx P w K mg base cl) : Cal P w K mg base cl 7 "look_at_line" 2 m_look_at_line := by
  have c_look_at_graph := ok_look_at_graph z
  have c_need_number := ok_need_number z
  have nd : (["graph", "line"] : List Str).Nodup := by decide +kernel
  refine cal_of (N := ["graph", "line"]) z.d_look_at_line ⟨rfl, rfl, rfl, nd, rfl, by decide +kernel, by decide +kernel⟩ rfl fun f cd B out t H E room gd tk px => ?_
  exact (ssm_cons (sm_expr (em_call c_look_at_graph room gd tk (am_cons (em_var 0) am_nil)))
      (ssm_one (sm_expr (em_call c_need_number room gd tk (am_cons (em_var 1) (am_cons em_int (am_cons (em_op op_sub sSub (em_callB c_len sLen z.b_len bt_len (am_cons (em_ix (units1 room) (em_var 0) em_int) am_nil)) em_int) am_nil)))))))
noncomputable def m_gave : Fm := mDef 3 (mThen (mDrop (mCall 2 m_look_at_line (mCons (mVar 0) (mCons (mVar 1) mNil))))
  (mThen (mDrop (mCall 3 m_need_number (mCons (mVar 2) (mCons (mC (.int 0)) (mCons (mC (.int 100000)) mNil)))))
  (mRt (mCall 2 m_counted (mCons (m2 gIx (m2 gIx (m2 gIx (mVar 0) (mC (.int 1))) (mVar 1)) (mC (.int 2))) (mCons (mVar 2) mNil))))))
theorem ok_gave (z : Tx P w K mg base cl) : Cal P w K mg base cl 8 "gave" 3 m_gave := by
  have c_counted := ok_counted z
  have c_look_at_line := ok_look_at_line z
  have c_need_number := ok_need_number z
  have nd : (["graph", "line", "count"] : List Str).Nodup := by decide +kernel
  refine cal_of (N := ["graph", "line", "count"]) z.d_gave ⟨rfl, rfl, rfl, nd, rfl, by decide +kernel, by decide +kernel⟩ rfl fun f cd B out t H E room gd tk px => ?_
  exact (ssm_cons (sm_expr (em_call c_look_at_line room gd tk (am_cons (em_var 0) (am_cons (em_var 1) am_nil))))
      (ssm_cons (sm_expr (em_call c_need_number room gd tk (am_cons (em_var 2) (am_cons em_int (am_cons (em_gint z.g_MOST_FIRINGS) am_nil)))))
      (ssm_one (sm_ret (em_call c_counted room gd tk (am_cons (em_ix (units1 room) (em_ix (units1 room) (em_ix (units1 room) (em_var 0) em_int) (em_var 1)) em_int) (am_cons (em_var 2) am_nil)))))))
noncomputable def m_took : Fm := mDef 3 (mThen (mDrop (mCall 2 m_look_at_line (mCons (mVar 0) (mCons (mVar 1) mNil))))
  (mThen (mDrop (mCall 3 m_need_number (mCons (mVar 2) (mCons (mC (.int 0)) (mCons (mC (.int 100000)) mNil)))))
  (mRt (mCall 2 m_counted (mCons (m2 gIx (m2 gIx (m2 gIx (mVar 0) (mC (.int 1))) (mVar 1)) (mC (.int 3))) (mCons (mVar 2) mNil))))))
theorem ok_took (z : Tx P w K mg base cl) : Cal P w K mg base cl 8 "took" 3 m_took := by
  have c_counted := ok_counted z
  have c_look_at_line := ok_look_at_line z
  have c_need_number := ok_need_number z
  have nd : (["graph", "line", "count"] : List Str).Nodup := by decide +kernel
  refine cal_of (N := ["graph", "line", "count"]) z.d_took ⟨rfl, rfl, rfl, nd, rfl, by decide +kernel, by decide +kernel⟩ rfl fun f cd B out t H E room gd tk px => ?_
  exact (ssm_cons (sm_expr (em_call c_look_at_line room gd tk (am_cons (em_var 0) (am_cons (em_var 1) am_nil))))
      (ssm_cons (sm_expr (em_call c_need_number room gd tk (am_cons (em_var 2) (am_cons em_int (am_cons (em_gint z.g_MOST_FIRINGS) am_nil)))))
      (ssm_one (sm_ret (em_call c_counted room gd tk (am_cons (em_ix (units1 room) (em_ix (units1 room) (em_ix (units1 room) (em_var 0) em_int) (em_var 1)) em_int) (am_cons (em_var 2) am_nil)))))))
noncomputable def m_need : Fm := mDef 3 (mThen (mDrop (mCall 2 m_look_at_line (mCons (mVar 0) (mCons (mVar 1) mNil))))
  (mThen (mDrop (mCall 3 m_need_number (mCons (mVar 2) (mCons (mC (.int 0)) (mCons (mC (.int 100000)) mNil)))))
  (mRt (mCall 2 m_need_told (mCons (m2 gIx (m2 gIx (mVar 0) (mC (.int 1))) (mVar 1)) (mCons (mVar 2) mNil))))))
theorem ok_need (z : Tx P w K mg base cl) : Cal P w K mg base cl 8 "need" 3 m_need := by
  have c_look_at_line := ok_look_at_line z
  have c_need_number := ok_need_number z
  have c_need_told := ok_need_told z
  have nd : (["graph", "line", "firing"] : List Str).Nodup := by decide +kernel
  refine cal_of (N := ["graph", "line", "firing"]) z.d_need ⟨rfl, rfl, rfl, nd, rfl, by decide +kernel, by decide +kernel⟩ rfl fun f cd B out t H E room gd tk px => ?_
  exact (ssm_cons (sm_expr (em_call c_look_at_line room gd tk (am_cons (em_var 0) (am_cons (em_var 1) am_nil))))
      (ssm_cons (sm_expr (em_call c_need_number room gd tk (am_cons (em_var 2) (am_cons em_int (am_cons (em_gint z.g_MOST_FIRINGS) am_nil)))))
      (ssm_one (sm_ret (em_call c_need_told room gd tk (am_cons (em_ix (units1 room) (em_ix (units1 room) (em_var 0) em_int) (em_var 1)) (am_cons (em_var 2) am_nil)))))))
noncomputable def m__law_source : Fm := mDef 1 (mRt (mDisp [((mC (.str "cells")), (mn fLs (mCons (mVar 0) mNil))), ((mC (.str "digits")), (mC (.int 0))), ((mC (.str "spot")), (mC (.int 0))), ((mC (.str "mixed")), (mC (.int 0)))]))
theorem ok__law_source (z : Tx P w K mg base cl) : Cal P w K mg base cl 1 "_law_source" 1 m__law_source := by
  have nd : (["script"] : List Str).Nodup := by decide +kernel
  refine cal_of (N := ["script"]) z.d__law_source ⟨rfl, rfl, rfl, nd, rfl, by decide +kernel, by decide +kernel⟩ rfl fun f cd B out t H E room gd tk px => ?_
  exact (ssm_one (sm_ret (em_disp (pm_cons em_str (em_callT call_list_of sLs z.b_list bt_list (am_cons (em_var 0) am_nil)) (pm_cons em_str em_int (pm_cons em_str em_int (pm_cons em_str em_int pm_nil)))))))
noncomputable def m__law_pick : Fm := mDef 7 (mThen (mIf (mB (m2 cEq (m2 gIx (mVar 0) (mC (.str "digits"))) (mC (.int 0)))) (mFor (mWalk (mSl (m2 gIx (mVar 0) (mC (.str "cells"))) (mP (m2 gIx (mVar 0) (mC (.str "spot")))) mNoP)) (gN 2) (mThen (mPut (mVar 0) (mC (.str "spot")) (m2 bAdd (m2 gIx (mVar 0) (mC (.str "spot"))) (mC (.int 1))))
  (mIf (mB (m2 cGe (mVar 2) (m2 bPow (mC (.int 10)) (mC (.int 16))))) (mThen (mPut (mVar 0) (mC (.str "digits")) (mVar 2))
  (fun ρ => Mo.ret (.bk ρ))) mNx))) mNx)
  (mThen (mIf (mB (m2 cGt (m2 gIx (mVar 0) (mC (.str "digits"))) (mC (.int 0)))) (mThen (mSet 4 (m2 gIx (mVar 0) (mC (.str "digits"))))
  (mThen (mPut (mVar 0) (mC (.str "digits")) (m2 bDiv (mVar 4) (mVar 1)))
  (mRt (m2 bMod (mn fInt (mCons (mVar 4) mNil)) (mVar 1))))) mNx)
  (mThen (mPar [5, 6] (mCons (m2 gIx (mVar 0) (mC (.str "mixed"))) (mCons (m2 gIx (mVar 0) (mC (.str "cells"))) mNil)))
  (mThen (mPut (mVar 0) (mC (.str "mixed")) (m2 bAdd (mVar 5) (mC (.int 1))))
  (mThen (mSet 2 (mIf (mB (m2 cNe (mVar 6) (mn fLst mNil))) (m2 gIx (mVar 6) (m2 bMod (mn fInt (mCons (mVar 5) mNil)) (mn fLen (mCons (mVar 6) mNil)))) (mC (.int 0))))
  (mThen (mSet 3 (m2 bMod (m2 bAdd (m2 bAdd (m2 bMul (m2 bMod (mn fInt (mCons (mVar 2) mNil)) (mC (.int 1999999973))) (m2 bAdd (m2 bMul (mC (.int 5)) (mVar 5)) (mC (.int 3)))) (m2 bMul (mC (.int 15485863)) (mVar 5))) (mC (.int 27644437))) (mC (.int 2147483629))))
  (mRt (m2 bMod (m2 bDiv (m2 bMod (m2 bMul (m2 bMod (m2 bMul (mVar 3) (mVar 3)) (mC (.int 2147483587))) (mC (.int 69621))) (mC (.int 2147483647))) (mC (.int 17))) (mVar 1)))))))))
theorem ok__law_pick (z : Tx P w K mg base cl) : Cal P w K mg base cl 1 "_law_pick" 2 m__law_pick := by
  have nd : (["s", "many", "cell", "first", "rest", "turn", "cells"] : List Str).Nodup := by decide +kernel
  refine cal_of (N := ["s", "many", "cell", "first", "rest", "turn", "cells"]) z.d__law_pick ⟨rfl, rfl, rfl, nd, rfl, by decide +kernel, by decide +kernel⟩ rfl fun f cd B out t H E room gd tk px => ?_
  exact (ssm_cons (sm_if (tm_cmp (op_eqD (units64 room)) sEq (em_ix (units1 room) (em_var 0) em_str) em_int rfl) (ssm_one (sm_for px rfl (im_any (em_slice (em_ix (units1 room) (em_var 0) em_str) (om_some (em_ix (units1 room) (em_var 0) em_str)) om_none)) (gm_name nd) (ssm_cons (sm_put (units1 room) (em_var 0) em_str (em_op op_add4 sAdd (em_ix (units1 room) (em_var 0) em_str) em_int))
      (ssm_one (sm_if (tm_cmp op_ge sCmp (em_var 2) (em_op op_pow sPow em_int em_int) rfl) (ssm_cons (sm_put (units1 room) (em_var 0) em_str (em_var 2))
      (ssm_one sm_break)) ssm_nil))))) ssm_nil)
      (ssm_cons (sm_if (tm_cmp op_gt sCmp (em_ix (units1 room) (em_var 0) em_str) em_int rfl) (ssm_cons (sm_set (i := 4) nd (em_ix (units1 room) (em_var 0) em_str))
      (ssm_cons (sm_put (units1 room) (em_var 0) em_str (em_op op_fdivW sDiv (em_var 4) (em_var 1)))
      (ssm_one (sm_ret (em_op op_mod sMod (em_callT call_int1 sInt1 z.b_int bt_int (am_cons (em_var 4) am_nil)) (em_var 1)))))) ssm_nil)
      (ssm_cons (sm_par2 (i := 5) (j := 6) rfl nd (am_cons (em_ix (units1 room) (em_var 0) em_str) (am_cons (em_ix (units1 room) (em_var 0) em_str) am_nil)))
      (ssm_cons (sm_put (units1 room) (em_var 0) em_str (em_op op_add4 sAdd (em_var 5) em_int))
      (ssm_cons (sm_set (i := 2) nd (em_if (tm_cmp (op_neD (units64 room)) sNe (em_var 6) (em_lst am_nil) rfl) (em_ix (units1 room) (em_var 6) (em_op op_mod sMod (em_callT call_int1 sInt1 z.b_int bt_int (am_cons (em_var 5) am_nil)) (em_callB c_len sLen z.b_len bt_len (am_cons (em_var 6) am_nil)))) em_int))
      (ssm_cons (sm_set (i := 3) nd (em_op op_mod sMod (em_op op_add4 sAdd (em_op op_add4 sAdd (em_op op_mul5 sMul (em_op op_mod sMod (em_callT call_int1 sInt1 z.b_int bt_int (am_cons (em_var 2) am_nil)) em_int) (em_op op_add4 sAdd (em_op op_mul5 sMul em_int (em_var 5)) em_int)) (em_op op_mul5 sMul em_int (em_var 5))) em_int) em_int))
      (ssm_one (sm_ret (em_op op_mod sMod (em_op op_fdivW sDiv (em_op op_mod sMod (em_op op_mul5 sMul (em_op op_mod sMod (em_op op_mul5 sMul (em_var 3) (em_var 3)) em_int) em_int) em_int) em_int) (em_var 1))))))))))
noncomputable def m__law_one : Fm := mDef 2 (mRt (m2 gIx (mVar 1) (mCall 2 m__law_pick (mCons (mVar 0) (mCons (mn fLen (mCons (mVar 1) mNil)) mNil)))))
theorem ok__law_one (z : Tx P w K mg base cl) : Cal P w K mg base cl 2 "_law_one" 2 m__law_one := by
  have c__law_pick := ok__law_pick z
  have nd : (["s", "some"] : List Str).Nodup := by decide +kernel
  refine cal_of (N := ["s", "some"]) z.d__law_one ⟨rfl, rfl, rfl, nd, rfl, by decide +kernel, by decide +kernel⟩ rfl fun f cd B out t H E room gd tk px => ?_
  exact (ssm_one (sm_ret (em_ix (units1 room) (em_var 1) (em_call c__law_pick room gd tk (am_cons (em_var 0) (am_cons (em_callB c_len sLen z.b_len bt_len (am_cons (em_var 1) am_nil)) am_nil))))))
noncomputable def m__law_same : Fm := mDef 2 (mRt (mAndV (m2 cEq (mVar 0) (mVar 1)) (m2 cEq (mn fRep (mCons (mVar 0) mNil)) (mn fRep (mCons (mVar 1) mNil)))))
theorem ok__law_same (z : Tx P w K mg base cl) : Cal P w K mg base cl 1 "_law_same" 2 m__law_same := by
  have nd : (["one", "other"] : List Str).Nodup := by decide +kernel
  refine cal_of (N := ["one", "other"]) z.d__law_same ⟨rfl, rfl, rfl, nd, rfl, by decide +kernel, by decide +kernel⟩ rfl fun f cd B out t H E room gd tk px => ?_
  exact (ssm_one (sm_ret (em_and (em_cmp (op_eqD (units64 room)) sEq (em_var 0) (em_var 1) rfl) (em_one (em_cmp (op_eqD (units64 room)) sEq (em_callB (c_repr gd (units64 room)) sRep z.b_repr bt_repr (am_cons (em_var 0) am_nil)) (em_callB (c_repr gd (units64 room)) sRep z.b_repr bt_repr (am_cons (em_var 1) am_nil)) rfl)))))
noncomputable def m__law_called : Fm := mDef 8 (mThen (mPar [3, 4, 5] (mCons (mC (.str "qwertyuiopasdfghjklzxcvbnm")) (mCons (mn fTup (mCons (mC (.str "")) (mCons (mC (.str "")) (mCons (mC (.str "0")) (mCons (mC (.str "9z")) (mCons (mC (.str "x7x7x7x")) (mCons (mC (.str "in5")) mNil))))))) (mCons (mNew nLst mNil) mNil))))
  (mThen (mPar [6, 7] (mCons (mCall 2 m__law_pick (mCons (mVar 0) (mCons (mC (.int 26)) mNil))) (mCons (mCall 2 m__law_one (mCons (mVar 0) (mCons (mn fLst (mCons (mC (.int 1)) (mCons (mC (.int 3)) (mCons (mC (.int 5)) (mCons (mC (.int 7)) (mCons (mC (.int 9)) (mCons (mC (.int 11)) (mCons (mC (.int 15)) (mCons (mC (.int 17)) (mCons (mC (.int 19)) (mCons (mC (.int 21)) (mCons (mC (.int 23)) (mCons (mC (.int 25)) mNil))))))))))))) mNil))) mNil)))
  (mThen (mFor (mRng1 (mCons (mVar 1) mNil)) (gN 2) (mDrop (mApp (mVar 5) (mCons (m2 bAdd (m2 gIx (mVar 3) (m2 bMod (mn fInt (mCons (m2 bAdd (mVar 6) (m2 bMul (mVar 2) (mVar 7))) mNil)) (mC (.int 26)))) (mCall 2 m__law_one (mCons (mVar 0) (mCons (mVar 4) mNil)))) mNil))))
  (mRt (mn fTpl (mCons (mVar 5) mNil))))))
theorem ok__law_called (z : Tx P w K mg base cl) : Cal P w K mg base cl 3 "_law_called" 2 m__law_called := by
  have c__law_one := ok__law_one z
  have c__law_pick := ok__law_pick z
  have nd : (["s", "many", "k", "letters", "tails", "found", "first", "stride"] : List Str).Nodup := by decide +kernel
  refine cal_of (N := ["s", "many", "k", "letters", "tails", "found", "first", "stride"]) z.d__law_called ⟨rfl, rfl, rfl, nd, rfl, by decide +kernel, by decide +kernel⟩ rfl fun f cd B out t H E room gd tk px => ?_
  exact (ssm_cons (sm_par3 (i := 3) (j := 4) (l := 5) rfl nd (am_cons em_str (am_cons (em_tup (am_cons em_str (am_cons em_str (am_cons em_str (am_cons em_str (am_cons em_str (am_cons em_str am_nil))))))) (am_cons (em_lstO am_nil) am_nil))))
      (ssm_cons (sm_par2 (i := 6) (j := 7) rfl nd (am_cons (em_call c__law_pick room gd tk (am_cons (em_var 0) (am_cons em_int am_nil))) (am_cons (em_call c__law_one room gd tk (am_cons (em_var 0) (am_cons (em_lst (am_cons em_int (am_cons em_int (am_cons em_int (am_cons em_int (am_cons em_int (am_cons em_int (am_cons em_int (am_cons em_int (am_cons em_int (am_cons em_int (am_cons em_int (am_cons em_int am_nil))))))))))))) am_nil))) am_nil)))
      (ssm_cons (sm_for px rfl (im_rng1 z.b_range (am_cons (em_var 1) am_nil)) (gm_name nd) (ssm_one (sm_expr (em_app (em_var 5) (am_cons (em_op op_add4 sAdd (em_ix (units1 room) (em_var 3) (em_op op_mod sMod (em_callT call_int1 sInt1 z.b_int bt_int (am_cons (em_op op_add4 sAdd (em_var 6) (em_op op_mul5 sMul (em_var 2) (em_var 7))) am_nil)) em_int)) (em_call c__law_one room gd tk (am_cons (em_var 0) (am_cons (em_var 4) am_nil)))) am_nil)))))
      (ssm_one (sm_ret (em_callT call_tuple_of sTpl z.b_tuple bt_tuple (am_cons (em_var 5) am_nil)))))))
noncomputable def m__law_shared : Fm := mDef 3 (mThen (mFor (mRng1 (mCons (mC (.int 2000)) mNil)) (gN 2) (mThen (mIf (mB (m2 cEq (mVar 1) (mC (.int 0)))) (fun ρ => Mo.ret (.bk ρ)) mNx)
  (mPar [0, 1] (mCons (mVar 1) (mCons (m2 bMod (mn fInt (mCons (mVar 0) mNil)) (mVar 1)) mNil)))))
  (mRt (mVar 0)))
theorem ok__law_shared (z : Tx P w K mg base cl) : Cal P w K mg base cl 1 "_law_shared" 2 m__law_shared := by
  have nd : (["one", "other", "turn"] : List Str).Nodup := by decide +kernel
  refine cal_of (N := ["one", "other", "turn"]) z.d__law_shared ⟨rfl, rfl, rfl, nd, rfl, by decide +kernel, by decide +kernel⟩ rfl fun f cd B out t H E room gd tk px => ?_
  exact (ssm_cons (sm_for px rfl (im_rng1 z.b_range (am_cons em_int am_nil)) (gm_name nd) (ssm_cons (sm_if (tm_cmp (op_eqD (units64 room)) sEq (em_var 1) em_int rfl) (ssm_one sm_break) ssm_nil)
      (ssm_one (sm_par2 (i := 0) (j := 1) rfl nd (am_cons (em_var 1) (am_cons (em_op op_mod sMod (em_callT call_int1 sInt1 z.b_int bt_int (am_cons (em_var 0) am_nil)) (em_var 1)) am_nil))))))
      (ssm_one (sm_ret (em_var 0))))
noncomputable def m__law_parted : Fm := mDef 9 (mThen (mPar [4, 5, 6] (mCons (mRepO (mn fLst (mCons (mC (.int 0)) mNil)) (mVar 2)) (mCons (mCall 2 m__law_pick (mCons (mVar 0) (mCons (mVar 2) mNil))) (mCons (m2 bAdd (mC (.int 1)) (mCall 2 m__law_pick (mCons (mVar 0) (mCons (mVar 2) mNil)))) mNil))))
  (mThen (mFor (mRng1 (mCons (mVar 1) mNil)) (gN 3) (mThen (mSet 7 (m2 bMod (mn fInt (mCons (m2 bAdd (mVar 5) (mCall 2 m__law_pick (mCons (mVar 0) (mCons (mVar 6) mNil)))) mNil)) (mVar 2)))
  (mThen (mFor (mRng1 (mCons (mVar 2) mNil)) (gN 8) (mThen (mIf (mB (m2 cLt (m2 gIx (mVar 4) (mVar 7)) (mC (.int 9)))) (fun ρ => Mo.ret (.bk ρ)) mNx)
  (mSet 7 (m2 bMod (mn fInt (mCons (m2 bAdd (mVar 7) (mC (.int 1))) mNil)) (mVar 2)))))
  (mPut (mVar 4) (mVar 7) (m2 bAdd (m2 gIx (mVar 4) (mVar 7)) (mC (.int 1)))))))
  (mRt (mn fTpl (mCons (mVar 4) mNil)))))
theorem ok__law_parted (z : Tx P w K mg base cl) : Cal P w K mg base cl 2 "_law_parted" 3 m__law_parted := by
  have c__law_pick := ok__law_pick z
  have nd : (["s", "total", "places", "turn", "found", "start", "few", "at", "step"] : List Str).Nodup := by decide +kernel
  refine cal_of (N := ["s", "total", "places", "turn", "found", "start", "few", "at", "step"]) z.d__law_parted ⟨rfl, rfl, rfl, nd, rfl, by decide +kernel, by decide +kernel⟩ rfl fun f cd B out t H E room gd tk px => ?_
  exact (ssm_cons (sm_par3 (i := 4) (j := 5) (l := 6) rfl nd (am_cons (em_repO (em_lst (am_cons em_int am_nil)) (em_var 2)) (am_cons (em_call c__law_pick room gd tk (am_cons (em_var 0) (am_cons (em_var 2) am_nil))) (am_cons (em_op op_add4 sAdd em_int (em_call c__law_pick room gd tk (am_cons (em_var 0) (am_cons (em_var 2) am_nil)))) am_nil))))
      (ssm_cons (sm_for px rfl (im_rng1 z.b_range (am_cons (em_var 1) am_nil)) (gm_name nd) (ssm_cons (sm_set (i := 7) nd (em_op op_mod sMod (em_callT call_int1 sInt1 z.b_int bt_int (am_cons (em_op op_add4 sAdd (em_var 5) (em_call c__law_pick room gd tk (am_cons (em_var 0) (am_cons (em_var 6) am_nil)))) am_nil)) (em_var 2)))
      (ssm_cons (sm_for px rfl (im_rng1 z.b_range (am_cons (em_var 2) am_nil)) (gm_name nd) (ssm_cons (sm_if (tm_cmp op_lt sCmp (em_ix (units1 room) (em_var 4) (em_var 7)) em_int rfl) (ssm_one sm_break) ssm_nil)
      (ssm_one (sm_set (i := 7) nd (em_op op_mod sMod (em_callT call_int1 sInt1 z.b_int bt_int (am_cons (em_op op_add4 sAdd (em_var 7) em_int) am_nil)) (em_var 2))))))
      (ssm_one (sm_put (units1 room) (em_var 4) (em_var 7) (em_op op_add4 sAdd (em_ix (units1 room) (em_var 4) (em_var 7)) em_int))))))
      (ssm_one (sm_ret (em_callT call_tuple_of sTpl z.b_tuple bt_tuple (am_cons (em_var 4) am_nil))))))
noncomputable def m__law_sum : Fm := mDef 4 (mThen (mPar [2, 3] (mCons (m2 bDiv (mVar 1) (mn fLen (mCons (mVar 0) mNil))) (mCons (m2 bMod (mn fInt (mCons (mVar 1) mNil)) (mn fLen (mCons (mVar 0) mNil))) mNil)))
  (mRt (m2 bAdd (m2 bMul (mVar 2) (mn fSum (mCons (mVar 0) mNil))) (mn fSum (mCons (mSl (mVar 0) mNoP (mP (mVar 3))) mNil)))))
theorem ok__law_sum (z : Tx P w K mg base cl) : Cal P w K mg base cl 1 "_law_sum" 2 m__law_sum := by
  have nd : (["row", "count", "whole", "rest"] : List Str).Nodup := by decide +kernel
  refine cal_of (N := ["row", "count", "whole", "rest"]) z.d__law_sum ⟨rfl, rfl, rfl, nd, rfl, by decide +kernel, by decide +kernel⟩ rfl fun f cd B out t H E room gd tk px => ?_
  exact (ssm_cons (sm_par2 (i := 2) (j := 3) rfl nd (am_cons (em_op op_fdivW sDiv (em_var 1) (em_callB c_len sLen z.b_len bt_len (am_cons (em_var 0) am_nil))) (am_cons (em_op op_mod sMod (em_callT call_int1 sInt1 z.b_int bt_int (am_cons (em_var 1) am_nil)) (em_callB c_len sLen z.b_len bt_len (am_cons (em_var 0) am_nil))) am_nil)))
      (ssm_one (sm_ret (em_op op_add4 sAdd (em_op op_mul5 sMul (em_var 2) (em_callB (c_sum rfl) sSum z.b_sum bt_sum (am_cons (em_var 0) am_nil))) (em_callB (c_sum rfl) sSum z.b_sum bt_sum (am_cons (em_slice (em_var 0) om_none (om_some (em_var 3))) am_nil))))))
noncomputable def m__law_far : Fm := mDef 10 (mThen (mPar [4, 5, 6] (mCons (m2 bSub (mCall 2 m__law_sum (mCons (m2 gIx (mVar 0) (mC (.int 3))) (mCons (m2 bAdd (mVar 1) (mC (.int 1))) mNil))) (m2 gIx (mVar 0) (mC (.int 4)))) (mCons (mn fSum (mCons (m2 gIx (mVar 0) (mC (.int 2))) mNil)) (mCons (mn fLen (mCons (m2 gIx (mVar 0) (mC (.int 2))) mNil)) mNil))))
  (mThen (mPar [7, 8, 9] (mCons (m2 bDiv (m2 bSub (mVar 4) (mC (.int 1))) (mVar 5)) (mCons (mC (.int 0)) (mCons (mC (.int 0)) mNil))))
  (mThen (mSet 2 (m2 bSub (mVar 4) (m2 bMul (mVar 7) (mVar 5))))
  (mThen (mFor (mWalk (m2 gIx (mVar 0) (mC (.int 2)))) (gN 3) (mThen (mPar [8, 9] (mCons (m2 bAdd (mVar 8) (mVar 3)) (mCons (m2 bAdd (mVar 9) (mC (.int 1))) mNil)))
  (mIf (mB (m2 cGe (mVar 8) (mVar 2))) (fun ρ => Mo.ret (.bk ρ)) mNx)))
  (mRt (m2 bAdd (m2 bMul (mVar 7) (mVar 6)) (mVar 9)))))))
theorem ok__law_far (z : Tx P w K mg base cl) : Cal P w K mg base cl 2 "_law_far" 2 m__law_far := by
  have c__law_sum := ok__law_sum z
  have nd : (["line", "firing", "rest", "number", "target", "total", "size", "whole", "some", "count"] : List Str).Nodup := by decide +kernel
  refine cal_of (N := ["line", "firing", "rest", "number", "target", "total", "size", "whole", "some", "count"]) z.d__law_far ⟨rfl, rfl, rfl, nd, rfl, by decide +kernel, by decide +kernel⟩ rfl fun f cd B out t H E room gd tk px => ?_
  exact (ssm_cons (sm_par3 (i := 4) (j := 5) (l := 6) rfl nd (am_cons (em_op op_sub sSub (em_call c__law_sum room gd tk (am_cons (em_ix (units1 room) (em_var 0) em_int) (am_cons (em_op op_add4 sAdd (em_var 1) em_int) am_nil))) (em_ix (units1 room) (em_var 0) em_int)) (am_cons (em_callB (c_sum rfl) sSum z.b_sum bt_sum (am_cons (em_ix (units1 room) (em_var 0) em_int) am_nil)) (am_cons (em_callB c_len sLen z.b_len bt_len (am_cons (em_ix (units1 room) (em_var 0) em_int) am_nil)) am_nil))))
      (ssm_cons (sm_par3 (i := 7) (j := 8) (l := 9) rfl nd (am_cons (em_op op_fdivW sDiv (em_op op_sub sSub (em_var 4) em_int) (em_var 5)) (am_cons em_int (am_cons em_int am_nil))))
      (ssm_cons (sm_set (i := 2) nd (em_op op_sub sSub (em_var 4) (em_op op_mul5 sMul (em_var 7) (em_var 5))))
      (ssm_cons (sm_for px rfl (im_any (em_ix (units1 room) (em_var 0) em_int)) (gm_name nd) (ssm_cons (sm_par2 (i := 8) (j := 9) rfl nd (am_cons (em_op op_add4 sAdd (em_var 8) (em_var 3)) (am_cons (em_op op_add4 sAdd (em_var 9) em_int) am_nil)))
      (ssm_one (sm_if (tm_cmp op_ge sCmp (em_var 8) (em_var 2) rfl) (ssm_one sm_break) ssm_nil))))
      (ssm_one (sm_ret (em_op op_add4 sAdd (em_op op_mul5 sMul (em_var 7) (em_var 6)) (em_var 9))))))))
noncomputable def m__law_digits : Fm := mDef 5 (mThen (mSet 2 (mLc (mRng1 (mCons (mVar 1) mNil)) [4] (gN 4) mYes (mCall 2 m__law_one (mCons (mVar 0) (mCons (mn fLst (mCons (mC (.int 0)) (mCons (mC (.int 9)) (mCons (mCall 2 m__law_pick (mCons (mVar 0) (mCons (mC (.int 10)) mNil))) mNil)))) mNil)))))
  (mThen (mSet 3 (mCall 2 m__law_pick (mCons (mVar 0) (mCons (mVar 1) mNil))))
  (mRt (mn fTpl (mCons (m2 bAdd (m2 bAdd (mSl (mVar 2) mNoP (mP (mVar 3))) (mn fLst (mCons (m2 bAdd (mC (.int 1)) (mCall 2 m__law_pick (mCons (mVar 0) (mCons (mC (.int 9)) mNil)))) mNil))) (mSl (mVar 2) (mP (m2 bAdd (mVar 3) (mC (.int 1)))) mNoP)) mNil)))))
theorem ok__law_digits (z : Tx P w K mg base cl) : Cal P w K mg base cl 3 "_law_digits" 2 m__law_digits := by
  have c__law_one := ok__law_one z
  have c__law_pick := ok__law_pick z
  have nd : (["s", "places", "found", "at", "turn"] : List Str).Nodup := by decide +kernel
  refine cal_of (N := ["s", "places", "found", "at", "turn"]) z.d__law_digits ⟨rfl, rfl, rfl, nd, rfl, by decide +kernel, by decide +kernel⟩ rfl fun f cd B out t H E room gd tk px => ?_
  exact (ssm_cons (sm_setLc (i := 2) rfl nd (im_rng1 z.b_range (am_cons (em_var 1) am_nil)) (blkOk_by (own := [("turn", 4)]) (by rfl)) (fun _ _ _ _ _ => (gm_name nd)) (fun _ _ _ _ _ => tsm_nil) (fun _ _ _ _ _ => (em_call c__law_one room gd takes0 (am_cons (em_var 0) (am_cons (em_lst (am_cons em_int (am_cons em_int (am_cons (em_call c__law_pick room gd takes0 (am_cons (em_var 0) (am_cons em_int am_nil))) am_nil)))) am_nil)))) (sw_true rfl rfl rfl (by decide +kernel)))
      (ssm_cons (sm_set (i := 3) nd (em_call c__law_pick room gd tk (am_cons (em_var 0) (am_cons (em_var 1) am_nil))))
      (ssm_one (sm_ret (em_callT call_tuple_of sTpl z.b_tuple bt_tuple (am_cons (em_op op_add4 sAdd (em_op op_add4 sAdd (em_slice (em_var 2) om_none (om_some (em_var 3))) (em_lst (am_cons (em_op op_add4 sAdd em_int (em_call c__law_pick room gd tk (am_cons (em_var 0) (am_cons em_int am_nil)))) am_nil))) (em_slice (em_var 2) (om_some (em_op op_add4 sAdd (em_var 3) em_int)) om_none)) am_nil))))))
noncomputable def m__law_rare : Fm := mDef 4 (mThen (mPar [2, 3] (mCons (mCall 2 m__law_pick (mCons (mVar 0) (mCons (mVar 1) mNil))) (mCons (mCall 2 m__law_pick (mCons (mVar 0) (mCons (mC (.int 3)) mNil))) mNil)))
  (mThen (mIf (mB (m2 cEq (mVar 3) (mC (.int 0)))) (mRt (m2 bAdd (m2 bAdd (m2 bMul (mn fTup (mCons (mC (.int 0)) mNil)) (mVar 2)) (mn fTup (mCons (m2 bAdd (mC (.int 1)) (mCall 2 m__law_pick (mCons (mVar 0) (mCons (mC (.int 9)) mNil)))) mNil))) (m2 bMul (mn fTup (mCons (mC (.int 0)) mNil)) (m2 bSub (m2 bSub (mVar 1) (mVar 2)) (mC (.int 1)))))) mNx)
  (mRt (mIf (mB (m2 cEq (mVar 3) (mC (.int 1)))) (mCall 3 m__law_parted (mCons (mVar 0) (mCons (m2 bAdd (mC (.int 1)) (mCall 2 m__law_pick (mCons (mVar 0) (mCons (m2 bMul (mC (.int 9)) (mVar 1)) mNil)))) (mCons (mVar 1) mNil)))) (mCall 2 m__law_digits (mCons (mVar 0) (mCons (mVar 1) mNil)))))))
theorem ok__law_rare (z : Tx P w K mg base cl) : Cal P w K mg base cl 4 "_law_rare" 2 m__law_rare := by
  have c__law_digits := ok__law_digits z
  have c__law_parted := ok__law_parted z
  have c__law_pick := ok__law_pick z
  have nd : (["s", "places", "at", "turn"] : List Str).Nodup := by decide +kernel
  refine cal_of (N := ["s", "places", "at", "turn"]) z.d__law_rare ⟨rfl, rfl, rfl, nd, rfl, by decide +kernel, by decide +kernel⟩ rfl fun f cd B out t H E room gd tk px => ?_
  exact (ssm_cons (sm_par2 (i := 2) (j := 3) rfl nd (am_cons (em_call c__law_pick room gd tk (am_cons (em_var 0) (am_cons (em_var 1) am_nil))) (am_cons (em_call c__law_pick room gd tk (am_cons (em_var 0) (am_cons em_int am_nil))) am_nil)))
      (ssm_cons (sm_if (tm_cmp (op_eqD (units64 room)) sEq (em_var 3) em_int rfl) (ssm_one (sm_ret (em_op op_add4 sAdd (em_op op_add4 sAdd (em_op op_mul5 sMul (em_tup (am_cons em_int am_nil)) (em_var 2)) (em_tup (am_cons (em_op op_add4 sAdd em_int (em_call c__law_pick room gd tk (am_cons (em_var 0) (am_cons em_int am_nil)))) am_nil))) (em_op op_mul5 sMul (em_tup (am_cons em_int am_nil)) (em_op op_sub sSub (em_op op_sub sSub (em_var 1) (em_var 2)) em_int))))) ssm_nil)
      (ssm_one (sm_ret (em_if (tm_cmp (op_eqD (units64 room)) sEq (em_var 3) em_int rfl) (em_call c__law_parted room gd tk (am_cons (em_var 0) (am_cons (em_op op_add4 sAdd em_int (em_call c__law_pick room gd tk (am_cons (em_var 0) (am_cons (em_op op_mul5 sMul em_int (em_var 1)) am_nil)))) (am_cons (em_var 1) am_nil)))) (em_call c__law_digits room gd tk (am_cons (em_var 0) (am_cons (em_var 1) am_nil))))))))
noncomputable def m__law_far_line : Fm := mDef 9 (mThen (mAsg (gT (gTs (gN 3) (gTs (gN 4) gTs0))) (mn fTup (mCons (mCall 2 m__law_called (mCons (mVar 0) (mCons (mC (.int 2)) mNil))) (mCons (mLc (mRng1 (mCons (mC (.int 2)) mNil)) [8] (gN 8) mYes (mCall 2 m__law_one (mCons (mVar 0) (mCons (mn fLst (mCons (mC (.int 1)) (mCons (mC (.int 2)) (mCons (mC (.int 24)) (mCons (m2 bAdd (mC (.int 1)) (mCall 2 m__law_pick (mCons (mVar 0) (mCons (mC (.int 24)) mNil)))) mNil))))) mNil)))) mNil))))
  (mThen (mSet 1 (mn fTpl (mCons (mLc (mRng1 (mCons (mC (.int 2)) mNil)) [8] (gN 8) mYes (mn fTup (mCons (m2 gIx (mVar 3) (mVar 8)) (mCons (m2 bMul (mn fTup (mCons (mC (.int 1)) mNil)) (m2 gIx (mVar 4) (mVar 8))) mNil)))) mNil)))
  (mThen (mSet 2 (mNew nLst mNil))
  (mThen (mFor (mWalk (mn fTup (mCons (mn fTup (mCons (mC (.int 0)) (mCons (mC (.int 1)) mNil))) (mCons (mn fTup (mCons (mC (.int 1)) (mCons (mC (.int 0)) mNil))) (mCons (mn fTup (mCons (mC (.int 0)) (mCons (mC (.int 1)) mNil))) (mCons (mn fTup (mCons (mC (.int 0)) (mCons (mC (.int 0)) mNil))) mNil)))))) (gT (gTs (gN 5) (gTs (gN 6) gTs0))) (mThen (mSet 7 (mCall 2 m__law_one (mCons (mVar 0) (mCons (mn fLst (mCons (mC (.int 0)) (mCons (mC (.int 1)) (mCons (mC (.int 99999)) (mCons (mCall 2 m__law_pick (mCons (mVar 0) (mCons (mC (.int 100000)) mNil))) (mCons (mCall 2 m__law_pick (mCons (mVar 0) (mCons (mC (.int 200)) mNil))) mNil)))))) mNil))))
  (mDrop (mApp (mVar 2) (mCons (mn fTup (mCons (m2 gIx (mVar 3) (mVar 5)) (mCons (m2 gIx (mVar 3) (mVar 6)) (mCons (mCall 2 m__law_rare (mCons (mVar 0) (mCons (m2 gIx (mVar 4) (mVar 5)) mNil))) (mCons (mCall 2 m__law_rare (mCons (mVar 0) (mCons (m2 gIx (mVar 4) (mVar 6)) mNil))) (mCons (mVar 7) mNil)))))) mNil)))))
  (mRt (mn fTup (mCons (mVar 1) (mCons (mn fTpl (mCons (mVar 2) mNil)) mNil))))))))
theorem ok__law_far_line (z : Tx P w K mg base cl) : Cal P w K mg base cl 5 "_law_far_line" 1 m__law_far_line := by
  have c__law_called := ok__law_called z
  have c__law_one := ok__law_one z
  have c__law_pick := ok__law_pick z
  have c__law_rare := ok__law_rare z
  have nd : (["s", "tasks", "lines", "names", "sizes", "one", "other", "stock", "k"] : List Str).Nodup := by decide +kernel
  refine cal_of (N := ["s", "tasks", "lines", "names", "sizes", "one", "other", "stock", "k"]) z.d__law_far_line ⟨rfl, rfl, rfl, nd, rfl, by decide +kernel, by decide +kernel⟩ rfl fun f cd B out t H E room gd tk px => ?_
  exact (ssm_cons (sm_asg (em_tup (am_cons (em_call c__law_called room gd tk (am_cons (em_var 0) (am_cons em_int am_nil))) (am_cons (em_lc rfl nd (im_rng1 z.b_range (am_cons em_int am_nil)) (blkOk_by (own := [("k", 8)]) (by rfl)) (fun _ _ _ _ _ => (gm_name nd)) (fun _ _ _ _ _ => tsm_nil) (fun _ _ _ _ _ => (em_call c__law_one room gd takes0 (am_cons (em_var 0) (am_cons (em_lst (am_cons em_int (am_cons em_int (am_cons em_int (am_cons (em_op op_add4 sAdd em_int (em_call c__law_pick room gd takes0 (am_cons (em_var 0) (am_cons em_int am_nil)))) am_nil))))) am_nil))))) am_nil))) (gm_tup rfl (gm_cons (gm_name nd) (gm_cons (gm_name nd) gm_nil)) (gT_len (gT_len (fun _ _ _ => gT_len0)))))
      (ssm_cons (sm_set (i := 1) nd (em_callT call_tuple_of sTpl z.b_tuple bt_tuple (am_cons (em_lc rfl nd (im_rng1 z.b_range (am_cons em_int am_nil)) (blkOk_by (own := [("k", 8)]) (by rfl)) (fun _ _ _ _ _ => (gm_name nd)) (fun _ _ _ _ _ => tsm_nil) (fun _ _ _ _ _ => (em_tup (am_cons (em_ix (units1 room) (em_var 3) (em_var 8)) (am_cons (em_op op_mul5 sMul (em_tup (am_cons em_int am_nil)) (em_ix (units1 room) (em_var 4) (em_var 8))) am_nil))))) am_nil)))
      (ssm_cons (sm_set (i := 2) nd (em_lstO am_nil))
      (ssm_cons (sm_for px rfl (im_any (em_tup (am_cons (em_tup (am_cons em_int (am_cons em_int am_nil))) (am_cons (em_tup (am_cons em_int (am_cons em_int am_nil))) (am_cons (em_tup (am_cons em_int (am_cons em_int am_nil))) (am_cons (em_tup (am_cons em_int (am_cons em_int am_nil))) am_nil)))))) (gm_tup rfl (gm_cons (gm_name nd) (gm_cons (gm_name nd) gm_nil)) (gT_len (gT_len (fun _ _ _ => gT_len0)))) (ssm_cons (sm_set (i := 7) nd (em_call c__law_one room gd tk (am_cons (em_var 0) (am_cons (em_lst (am_cons em_int (am_cons em_int (am_cons em_int (am_cons (em_call c__law_pick room gd tk (am_cons (em_var 0) (am_cons em_int am_nil))) (am_cons (em_call c__law_pick room gd tk (am_cons (em_var 0) (am_cons em_int am_nil))) am_nil)))))) am_nil))))
      (ssm_one (sm_expr (em_app (em_var 2) (am_cons (em_tup (am_cons (em_ix (units1 room) (em_var 3) (em_var 5)) (am_cons (em_ix (units1 room) (em_var 3) (em_var 6)) (am_cons (em_call c__law_rare room gd tk (am_cons (em_var 0) (am_cons (em_ix (units1 room) (em_var 4) (em_var 5)) am_nil))) (am_cons (em_call c__law_rare room gd tk (am_cons (em_var 0) (am_cons (em_ix (units1 room) (em_var 4) (em_var 6)) am_nil))) (am_cons (em_var 7) am_nil)))))) am_nil))))))
      (ssm_one (sm_ret (em_tup (am_cons (em_var 1) (am_cons (em_callT call_tuple_of sTpl z.b_tuple bt_tuple (am_cons (em_var 2) am_nil)) am_nil)))))))))
noncomputable def m__law_rise : Fm := mDef 7 (mThen (mPar [3, 4, 5] (mCons (mVar 1) (mCons (mC (.int 100000)) (mCons (mn fMax (mCons (mC (.int 0)) (mCons (mCall 2 m__law_far (mCons (mVar 0) (mCons (mVar 1) mNil))) mNil))) mNil))))
  (mThen (mFor (mRng1 (mCons (mC (.int 18)) mNil)) (gN 2) (mThen (mSet 6 (m2 bDiv (m2 bAdd (m2 bAdd (mVar 3) (mVar 4)) (mC (.int 1))) (mC (.int 2))))
  (mIf (mB (m2 cEq (mn fMax (mCons (mC (.int 0)) (mCons (mCall 2 m__law_far (mCons (mVar 0) (mCons (mVar 6) mNil))) mNil))) (mVar 5))) (mSet 3 (mVar 6)) (mSet 4 (m2 bSub (mVar 6) (mC (.int 1)))))))
  (mRt (mVar 3))))
theorem ok__law_rise (z : Tx P w K mg base cl) : Cal P w K mg base cl 3 "_law_rise" 2 m__law_rise := by
  have c__law_far := ok__law_far z
  have nd : (["line", "firing", "turn", "low", "high", "due", "middle"] : List Str).Nodup := by decide +kernel
  refine cal_of (N := ["line", "firing", "turn", "low", "high", "due", "middle"]) z.d__law_rise ⟨rfl, rfl, rfl, nd, rfl, by decide +kernel, by decide +kernel⟩ rfl fun f cd B out t H E room gd tk px => ?_
  exact (ssm_cons (sm_par3 (i := 3) (j := 4) (l := 5) rfl nd (am_cons (em_var 1) (am_cons em_int (am_cons (em_callB (call_max2 rfl) s2I z.b_max bt_max (am_cons em_int (am_cons (em_call c__law_far room gd tk (am_cons (em_var 0) (am_cons (em_var 1) am_nil))) am_nil))) am_nil))))
      (ssm_cons (sm_for px rfl (im_rng1 z.b_range (am_cons em_int am_nil)) (gm_name nd) (ssm_cons (sm_set (i := 6) nd (em_op op_fdivW sDiv (em_op op_add4 sAdd (em_op op_add4 sAdd (em_var 3) (em_var 4)) em_int) em_int))
      (ssm_one (sm_if (tm_cmp (op_eqD (units64 room)) sEq (em_callB (call_max2 rfl) s2I z.b_max bt_max (am_cons em_int (am_cons (em_call c__law_far room gd tk (am_cons (em_var 0) (am_cons (em_var 6) am_nil))) am_nil))) (em_var 5) rfl) (ssm_one (sm_set (i := 3) nd (em_var 6))) (ssm_one (sm_set (i := 4) nd (em_op op_sub sSub (em_var 6) em_int)))))))
      (ssm_one (sm_ret (em_var 3)))))
noncomputable def m__law_need_right : Fm := mDef 6 (mThen (mPar [4, 5] (mCons (m2 gIx (m2 gIx (mVar 0) (mC (.int 1))) (mVar 1)) (mCons (mCall 3 m_need (mCons (mVar 0) (mCons (mVar 1) (mCons (mVar 2) mNil)))) mNil)))
  (mThen (mIf (mNot (mB (mCall 2 m__law_same (mCons (mVar 5) (mCons (mn fMax (mCons (mC (.int 0)) (mCons (mCall 2 m__law_far (mCons (mVar 4) (mCons (mVar 2) mNil))) mNil))) mNil))))) (mRt (mC (.bl false))) mNx)
  (mThen (mSet 3 (mCall 2 m__law_sum (mCons (m2 gIx (mVar 4) (mC (.int 3))) (mCons (m2 bAdd (mVar 2) (mC (.int 1))) mNil))))
  (mThen (mIf (mOr (mB (m2 cLt (m2 bAdd (m2 gIx (mVar 4) (mC (.int 4))) (mCall 2 m__law_sum (mCons (m2 gIx (mVar 4) (mC (.int 2))) (mCons (mVar 5) mNil)))) (mVar 3))) (mAnd (mB (m2 cGt (mVar 5) (mC (.int 0)))) (mB (m2 cGe (m2 bAdd (m2 gIx (mVar 4) (mC (.int 4))) (mCall 2 m__law_sum (mCons (m2 gIx (mVar 4) (mC (.int 2))) (mCons (m2 bSub (mVar 5) (mC (.int 1))) mNil)))) (mVar 3))))) (mRt (mC (.bl false))) mNx)
  (mThen (mIf (mAnd (mB (m2 cLe (mVar 5) (mC (.int 100000)))) (mOr (mB (m2 cNe (mCall 3 m_gave (mCons (mVar 0) (mCons (mVar 1) (mCons (mVar 5) mNil)))) (mCall 2 m__law_sum (mCons (m2 gIx (mVar 4) (mC (.int 2))) (mCons (mVar 5) mNil))))) (mB (m2 cLt (m2 bAdd (m2 gIx (mVar 4) (mC (.int 4))) (mCall 3 m_gave (mCons (mVar 0) (mCons (mVar 1) (mCons (mVar 5) mNil))))) (mVar 3))))) (mRt (mC (.bl false))) mNx)
  (mRt (mOrV (m2 cEq (mVar 2) (mC (.int 100000))) (m2 cGe (mCall 3 m_need (mCons (mVar 0) (mCons (mVar 1) (mCons (m2 bAdd (mVar 2) (mC (.int 1))) mNil)))) (mVar 5)))))))))
theorem ok__law_need_right (z : Tx P w K mg base cl) : Cal P w K mg base cl 9 "_law_need_right" 3 m__law_need_right := by
  have c__law_far := ok__law_far z
  have c__law_same := ok__law_same z
  have c__law_sum := ok__law_sum z
  have c_gave := ok_gave z
  have c_need := ok_need z
  have nd : (["graph", "number", "firing", "taken", "line", "told"] : List Str).Nodup := by decide +kernel
  refine cal_of (N := ["graph", "number", "firing", "taken", "line", "told"]) z.d__law_need_right ⟨rfl, rfl, rfl, nd, rfl, by decide +kernel, by decide +kernel⟩ rfl fun f cd B out t H E room gd tk px => ?_
  exact (ssm_cons (sm_par2 (i := 4) (j := 5) rfl nd (am_cons (em_ix (units1 room) (em_ix (units1 room) (em_var 0) em_int) (em_var 1)) (am_cons (em_call c_need room gd tk (am_cons (em_var 0) (am_cons (em_var 1) (am_cons (em_var 2) am_nil)))) am_nil)))
      (ssm_cons (sm_if (tm_not (tm_val (em_call c__law_same room gd tk (am_cons (em_var 5) (am_cons (em_callB (call_max2 rfl) s2I z.b_max bt_max (am_cons em_int (am_cons (em_call c__law_far room gd tk (am_cons (em_var 4) (am_cons (em_var 2) am_nil))) am_nil))) am_nil))))) (ssm_one (sm_ret em_bl)) ssm_nil)
      (ssm_cons (sm_set (i := 3) nd (em_call c__law_sum room gd tk (am_cons (em_ix (units1 room) (em_var 4) em_int) (am_cons (em_op op_add4 sAdd (em_var 2) em_int) am_nil))))
      (ssm_cons (sm_if (tw_pt (tw_or (tm_cmp op_lt sCmp (em_op op_add4 sAdd (em_ix (units1 room) (em_var 4) em_int) (em_call c__law_sum room gd tk (am_cons (em_ix (units1 room) (em_var 4) em_int) (am_cons (em_var 5) am_nil)))) (em_var 3) rfl) (tw_or1 (tw_pt (tw_and (tm_cmp op_gt sCmp (em_var 5) em_int rfl) (tw_and1 (tm_cmp op_ge sCmp (em_op op_add4 sAdd (em_ix (units1 room) (em_var 4) em_int) (em_call c__law_sum room gd tk (am_cons (em_ix (units1 room) (em_var 4) em_int) (am_cons (em_op op_sub sSub (em_var 5) em_int) am_nil)))) (em_var 3) rfl))))))) (ssm_one (sm_ret em_bl)) ssm_nil)
      (ssm_cons (sm_if (tw_pt (tw_and (tm_cmp op_le sCmp (em_var 5) em_int rfl) (tw_and1 (tw_pt (tw_or (tm_cmp (op_neD (units64 room)) sNe (em_call c_gave room gd tk (am_cons (em_var 0) (am_cons (em_var 1) (am_cons (em_var 5) am_nil)))) (em_call c__law_sum room gd tk (am_cons (em_ix (units1 room) (em_var 4) em_int) (am_cons (em_var 5) am_nil))) rfl) (tw_or1 (tm_cmp op_lt sCmp (em_op op_add4 sAdd (em_ix (units1 room) (em_var 4) em_int) (em_call c_gave room gd tk (am_cons (em_var 0) (am_cons (em_var 1) (am_cons (em_var 5) am_nil))))) (em_var 3) rfl))))))) (ssm_one (sm_ret em_bl)) ssm_nil)
      (ssm_one (sm_ret (em_or (em_cmp (op_eqD (units64 room)) sEq (em_var 2) em_int rfl) (em_one (em_cmp op_ge sCmp (em_call c_need room gd tk (am_cons (em_var 0) (am_cons (em_var 1) (am_cons (em_op op_add4 sAdd (em_var 2) em_int) am_nil)))) (em_var 5) rfl))))))))))
noncomputable def m__law_line_right : Fm := mDef 12 (mThen (mSet 3 (m2 gIx (m2 gIx (mVar 1) (mC (.int 1))) (mVar 2)))
  (mThen (mFor (mWalk (mn fTup (mCons (mC (.int 0)) (mCons (mC (.int 1)) (mCons (mC (.int 100000)) (mCons (mCall 2 m__law_pick (mCons (mVar 0) (mCons (mC (.int 100001)) mNil))) (mCons (mCall 2 m__law_pick (mCons (mVar 0) (mCons (mC (.int 60)) mNil))) (mCons (m2 bSub (mC (.int 99999)) (mCall 2 m__law_pick (mCons (mVar 0) (mCons (mC (.int 30)) mNil)))) mNil)))))))) (gN 4) (mIf (mOr (mNot (mB (mCall 2 m__law_same (mCons (mCall 3 m_gave (mCons (mVar 1) (mCons (mVar 2) (mCons (mVar 4) mNil)))) (mCons (mCall 2 m__law_sum (mCons (m2 gIx (mVar 3) (mC (.int 2))) (mCons (mVar 4) mNil))) mNil))))) (mNot (mB (mCall 2 m__law_same (mCons (mCall 3 m_took (mCons (mVar 1) (mCons (mVar 2) (mCons (mVar 4) mNil)))) (mCons (mCall 2 m__law_sum (mCons (m2 gIx (mVar 3) (mC (.int 3))) (mCons (mVar 4) mNil))) mNil)))))) (mRt (mC (.bl false))) mNx))
  (mThen (mFor (mRng1 (mCons (mC (.int 4)) mNil)) (gN 5) (mThen (mSet 7 (mCall 2 m__law_one (mCons (mVar 0) (mCons (mn fLst (mCons (mC (.int 0)) (mCons (mC (.int 100000)) (mCons (mCall 2 m__law_pick (mCons (mVar 0) (mCons (mC (.int 100001)) mNil))) (mCons (mCall 2 m__law_pick (mCons (mVar 0) (mCons (mC (.int 100)) mNil))) (mCons (m2 bSub (mC (.int 100000)) (mCall 2 m__law_pick (mCons (mVar 0) (mCons (mC (.int 50)) mNil)))) mNil)))))) mNil))))
  (mThen (mSet 8 (mCall 2 m__law_rise (mCons (mVar 3) (mCons (mVar 7) mNil))))
  (mFor (mWalk (mn fTup (mCons (mVar 7) (mCons (mVar 8) (mCons (mn fMin (mCons (mC (.int 100000)) (mCons (m2 bAdd (mVar 8) (mC (.int 1))) mNil))) (mCons (m2 bSub (mC (.int 100000)) (mCall 2 m__law_pick (mCons (mVar 0) (mCons (mC (.int 2000)) mNil)))) mNil)))))) (gN 9) (mIf (mNot (mB (mCall 3 m__law_need_right (mCons (mVar 1) (mCons (mVar 2) (mCons (mVar 9) mNil)))))) (mRt (mC (.bl false))) mNx)))))
  (mThen (mSet 6 (mCall 2 m__law_shared (mCons (mn fSum (mCons (m2 gIx (mVar 3) (mC (.int 2))) mNil)) (mCons (mn fSum (mCons (m2 gIx (mVar 3) (mC (.int 3))) mNil)) mNil))))
  (mThen (mPar [10, 11] (mCons (m2 bMul (m2 bDiv (mn fSum (mCons (m2 gIx (mVar 3) (mC (.int 2))) mNil)) (mVar 6)) (mn fLen (mCons (m2 gIx (mVar 3) (mC (.int 3))) mNil))) (mCons (m2 bMul (m2 bDiv (mn fSum (mCons (m2 gIx (mVar 3) (mC (.int 3))) mNil)) (mVar 6)) (mn fLen (mCons (m2 gIx (mVar 3) (mC (.int 2))) mNil))) mNil)))
  (mThen (mIf (mB (m2 cLt (mVar 10) (mC (.int 100000)))) (mThen (mSet 7 (mCall 2 m__law_pick (mCons (mVar 0) (mCons (m2 bSub (mC (.int 100001)) (mVar 10)) mNil))))
  (mIf (mAnd (mB (m2 cGt (mCall 2 m__law_far (mCons (mVar 3) (mCons (mVar 7) mNil))) (mC (.int 0)))) (mB (m2 cNe (mCall 3 m_need (mCons (mVar 1) (mCons (mVar 2) (mCons (m2 bAdd (mVar 7) (mVar 10)) mNil)))) (m2 bAdd (mCall 3 m_need (mCons (mVar 1) (mCons (mVar 2) (mCons (mVar 7) mNil)))) (mVar 11))))) (mRt (mC (.bl false))) mNx)) mNx)
  (mRt (mC (.bl true)))))))))
theorem ok__law_line_right (z : Tx P w K mg base cl) : Cal P w K mg base cl 10 "_law_line_right" 3 m__law_line_right := by
  have c__law_far := ok__law_far z
  have c__law_need_right := ok__law_need_right z
  have c__law_one := ok__law_one z
  have c__law_pick := ok__law_pick z
  have c__law_rise := ok__law_rise z
  have c__law_same := ok__law_same z
  have c__law_shared := ok__law_shared z
  have c__law_sum := ok__law_sum z
  have c_gave := ok_gave z
  have c_need := ok_need z
  have c_took := ok_took z
  have nd : (["s", "graph", "number", "line", "count", "turn", "shared", "firing", "late", "one", "more", "less"] : List Str).Nodup := by decide +kernel
  refine cal_of (N := ["s", "graph", "number", "line", "count", "turn", "shared", "firing", "late", "one", "more", "less"]) z.d__law_line_right ⟨rfl, rfl, rfl, nd, rfl, by decide +kernel, by decide +kernel⟩ rfl fun f cd B out t H E room gd tk px => ?_
  exact (ssm_cons (sm_set (i := 3) nd (em_ix (units1 room) (em_ix (units1 room) (em_var 1) em_int) (em_var 2)))
      (ssm_cons (sm_for px rfl (im_any (em_tup (am_cons em_int (am_cons em_int (am_cons em_int (am_cons (em_call c__law_pick room gd tk (am_cons (em_var 0) (am_cons em_int am_nil))) (am_cons (em_call c__law_pick room gd tk (am_cons (em_var 0) (am_cons em_int am_nil))) (am_cons (em_op op_sub sSub em_int (em_call c__law_pick room gd tk (am_cons (em_var 0) (am_cons em_int am_nil)))) am_nil)))))))) (gm_name nd) (ssm_one (sm_if (tw_pt (tw_or (tm_not (tm_val (em_call c__law_same room gd tk (am_cons (em_call c_gave room gd tk (am_cons (em_var 1) (am_cons (em_var 2) (am_cons (em_var 4) am_nil)))) (am_cons (em_call c__law_sum room gd tk (am_cons (em_ix (units1 room) (em_var 3) em_int) (am_cons (em_var 4) am_nil))) am_nil))))) (tw_or1 (tm_not (tm_val (em_call c__law_same room gd tk (am_cons (em_call c_took room gd tk (am_cons (em_var 1) (am_cons (em_var 2) (am_cons (em_var 4) am_nil)))) (am_cons (em_call c__law_sum room gd tk (am_cons (em_ix (units1 room) (em_var 3) em_int) (am_cons (em_var 4) am_nil))) am_nil)))))))) (ssm_one (sm_ret em_bl)) ssm_nil)))
      (ssm_cons (sm_for px rfl (im_rng1 z.b_range (am_cons em_int am_nil)) (gm_name nd) (ssm_cons (sm_set (i := 7) nd (em_call c__law_one room gd tk (am_cons (em_var 0) (am_cons (em_lst (am_cons em_int (am_cons em_int (am_cons (em_call c__law_pick room gd tk (am_cons (em_var 0) (am_cons em_int am_nil))) (am_cons (em_call c__law_pick room gd tk (am_cons (em_var 0) (am_cons em_int am_nil))) (am_cons (em_op op_sub sSub em_int (em_call c__law_pick room gd tk (am_cons (em_var 0) (am_cons em_int am_nil)))) am_nil)))))) am_nil))))
      (ssm_cons (sm_set (i := 8) nd (em_call c__law_rise room gd tk (am_cons (em_var 3) (am_cons (em_var 7) am_nil))))
      (ssm_one (sm_for px rfl (im_any (em_tup (am_cons (em_var 7) (am_cons (em_var 8) (am_cons (em_callB (call_min2 rfl) s2I z.b_min bt_min (am_cons em_int (am_cons (em_op op_add4 sAdd (em_var 8) em_int) am_nil))) (am_cons (em_op op_sub sSub em_int (em_call c__law_pick room gd tk (am_cons (em_var 0) (am_cons em_int am_nil)))) am_nil)))))) (gm_name nd) (ssm_one (sm_if (tm_not (tm_val (em_call c__law_need_right room gd tk (am_cons (em_var 1) (am_cons (em_var 2) (am_cons (em_var 9) am_nil)))))) (ssm_one (sm_ret em_bl)) ssm_nil)))))))
      (ssm_cons (sm_set (i := 6) nd (em_call c__law_shared room gd tk (am_cons (em_callB (c_sum rfl) sSum z.b_sum bt_sum (am_cons (em_ix (units1 room) (em_var 3) em_int) am_nil)) (am_cons (em_callB (c_sum rfl) sSum z.b_sum bt_sum (am_cons (em_ix (units1 room) (em_var 3) em_int) am_nil)) am_nil))))
      (ssm_cons (sm_par2 (i := 10) (j := 11) rfl nd (am_cons (em_op op_mul5 sMul (em_op op_fdivW sDiv (em_callB (c_sum rfl) sSum z.b_sum bt_sum (am_cons (em_ix (units1 room) (em_var 3) em_int) am_nil)) (em_var 6)) (em_callB c_len sLen z.b_len bt_len (am_cons (em_ix (units1 room) (em_var 3) em_int) am_nil))) (am_cons (em_op op_mul5 sMul (em_op op_fdivW sDiv (em_callB (c_sum rfl) sSum z.b_sum bt_sum (am_cons (em_ix (units1 room) (em_var 3) em_int) am_nil)) (em_var 6)) (em_callB c_len sLen z.b_len bt_len (am_cons (em_ix (units1 room) (em_var 3) em_int) am_nil))) am_nil)))
      (ssm_cons (sm_if (tm_cmp op_lt sCmp (em_var 10) em_int rfl) (ssm_cons (sm_set (i := 7) nd (em_call c__law_pick room gd tk (am_cons (em_var 0) (am_cons (em_op op_sub sSub em_int (em_var 10)) am_nil))))
      (ssm_one (sm_if (tw_pt (tw_and (tm_cmp op_gt sCmp (em_call c__law_far room gd tk (am_cons (em_var 3) (am_cons (em_var 7) am_nil))) em_int rfl) (tw_and1 (tm_cmp (op_neD (units64 room)) sNe (em_call c_need room gd tk (am_cons (em_var 1) (am_cons (em_var 2) (am_cons (em_op op_add4 sAdd (em_var 7) (em_var 10)) am_nil)))) (em_op op_add4 sAdd (em_call c_need room gd tk (am_cons (em_var 1) (am_cons (em_var 2) (am_cons (em_var 7) am_nil)))) (em_var 11)) rfl)))) (ssm_one (sm_ret em_bl)) ssm_nil))) ssm_nil)
      (ssm_one (sm_ret em_bl))))))))
noncomputable def m__law_refused (tb : Tbl) : Fm := mDef 3 (mThen (mTry1 "BadNumber" 2 (mCallL 0 tb (mCons (m2 gIx (mVar 1) (mC (.int 0))) (mCons (m2 gIx (mVar 1) (mC (.int 1))) (mCons (m2 gIx (mVar 1) (mC (.int 2))) mNil)))))
  (mRt (mC .non)))
theorem ok__law_refused (z : Tx P w K mg base cl) {tb : Tbl} (A : ∀ f n m, tb f = some (n, m) → CalA P w K mg base cl 8 f n m) : Cal P w K mg base cl 9 "_law_refused" 2 (m__law_refused tb) := by
  have nd : (["call", "rows", "error"] : List Str).Nodup := by decide +kernel
  refine cal_of (N := ["call", "rows", "error"]) z.d__law_refused ⟨rfl, rfl, rfl, nd, rfl, by decide +kernel, by decide +kernel⟩ rfl fun f cd B out t H E room gd tk px => ?_
  exact (ssm_cons (sm_try1 (i := 2) z.t_BadNumber rfl rfl nd tk (fun _ _ _ tk' => (em_callL A room gd tk' (am_cons (em_ix (units1 room) (em_var 1) em_int) (am_cons (em_ix (units1 room) (em_var 1) em_int) (am_cons (em_ix (units1 room) (em_var 1) em_int) am_nil))))))
      (ssm_one (sm_ret em_non)))
noncomputable def m_law (tb : Tbl) (fa_gave : Addr) (fa_took : Addr) (fa_need : Addr) : Fm := mDef 9 (mThen (mSet 1 (mCall 1 m__law_source (mCons (mVar 0) mNil)))
  (mThen (mFor (mRng1 (mCons (mC (.int 4)) mNil)) (gN 2) (mThen (mSet 5 (mCall 1 m__law_far_line (mCons (mVar 1) mNil)))
  (mFor (mRng1 (mCons (mC (.int 4)) mNil)) (gN 6) (mIf (mNot (mB (mCall 3 m__law_line_right (mCons (mVar 1) (mCons (mVar 5) (mCons (mVar 6) mNil)))))) (mRt (mC (.bl false))) mNx))))
  (mThen (mSet 3 (mn fLst (mCons (m1 uNeg (mC (.int 1))) (mCons (mC (.int 4)) (mCons (mC (.bl true)) (mCons (mC .non) (mCons (mC (.str "0")) (mCons (mn fTup (mCons (mC (.int 0)) mNil)) mNil))))))))
  (mThen (mFor (mWalk (mn fTup (mCons (mC (.raw (.ref fa_gave))) (mCons (mC (.raw (.ref fa_took))) (mCons (mC (.raw (.ref fa_need))) mNil))))) (gN 4) (mThen (mPar [7, 8] (mCons (mCall 2 m__law_one (mCons (mVar 1) (mCons (mVar 3) mNil))) (mCons (mCall 2 m__law_one (mCons (mVar 1) (mCons (mn fLst (mCons (m1 uNeg (mC (.int 1))) (mCons (mC (.int 100001)) (mCons (mC (.bl false)) (mCons (mC .non) (mCons (mC (.str "7")) mNil)))))) mNil))) mNil)))
  (mIf (mOr (mNot (mB (mCall 2 m__law_same (mCons (mCall 2 (m__law_refused tb) (mCons (mVar 4) (mCons (mn fTup (mCons (mVar 5) (mCons (mVar 7) (mCons (mVar 8) mNil)))) mNil))) (mCons (mn fLst (mCons (mVar 7) mNil)) mNil))))) (mNot (mB (mCall 2 m__law_same (mCons (mCall 2 (m__law_refused tb) (mCons (mVar 4) (mCons (mn fTup (mCons (mVar 5) (mCons (mC (.int 3)) (mCons (mVar 8) mNil)))) mNil))) (mCons (mn fLst (mCons (mVar 8) mNil)) mNil)))))) (mRt (mC (.bl false))) mNx)))
  (mRt (mC (.bl true)))))))
theorem fn_law (z : Tx P w K mg base cl) {tb : Tbl} (A : ∀ f n m, tb f = some (n, m) → CalA P w K mg base cl 8 f n m) {fa_gave : Addr} (h_gave : mg "gave" = some (.ref fa_gave)) {fa_took : Addr} (h_took : mg "took" = some (.ref fa_took)) {fa_need : Addr} (h_need : mg "need" = some (.ref fa_need)) {fl : Addr} {fd : FuncData} (F : Fun K "law" "law" s_law fl fd) : FnM P w K mg base cl 11 fl fd ["script"] (m_law tb fa_gave fa_took fa_need) := by
  have c__law_far_line := ok__law_far_line z
  have c__law_line_right := ok__law_line_right z
  have c__law_one := ok__law_one z
  have c__law_refused := ok__law_refused z A
  have c__law_same := ok__law_same z
  have c__law_source := ok__law_source z
  have nd : (["script", "s", "turn", "odds", "call", "graph", "number", "odd", "wrong"] : List Str).Nodup := by decide +kernel
  refine fnm_of (N := ["script", "s", "turn", "odds", "call", "graph", "number", "odd", "wrong"]) F ⟨rfl, rfl, rfl, nd, rfl, by decide +kernel, by decide +kernel⟩ fun cd B out t H E room gd tk px => ?_
  exact (ssm_cons (sm_set (i := 1) nd (em_call c__law_source room gd tk (am_cons (em_var 0) am_nil)))
      (ssm_cons (sm_for px rfl (im_rng1 z.b_range (am_cons em_int am_nil)) (gm_name nd) (ssm_cons (sm_set (i := 5) nd (em_call c__law_far_line room gd tk (am_cons (em_var 1) am_nil)))
      (ssm_one (sm_for px rfl (im_rng1 z.b_range (am_cons em_int am_nil)) (gm_name nd) (ssm_one (sm_if (tm_not (tm_val (em_call c__law_line_right room gd tk (am_cons (em_var 1) (am_cons (em_var 5) (am_cons (em_var 6) am_nil)))))) (ssm_one (sm_ret em_bl)) ssm_nil))))))
      (ssm_cons (sm_set (i := 3) nd (em_lst (am_cons (em_un un_neg sNeg em_int) (am_cons em_int (am_cons em_bl (am_cons em_non (am_cons em_str (am_cons (em_tup (am_cons em_int am_nil)) am_nil))))))))
      (ssm_cons (sm_for px rfl (im_any (em_tup (am_cons (em_gdef h_gave) (am_cons (em_gdef h_took) (am_cons (em_gdef h_need) am_nil))))) (gm_name nd) (ssm_cons (sm_par2 (i := 7) (j := 8) rfl nd (am_cons (em_call c__law_one room gd tk (am_cons (em_var 1) (am_cons (em_var 3) am_nil))) (am_cons (em_call c__law_one room gd tk (am_cons (em_var 1) (am_cons (em_lst (am_cons (em_un un_neg sNeg em_int) (am_cons em_int (am_cons em_bl (am_cons em_non (am_cons em_str am_nil)))))) am_nil))) am_nil)))
      (ssm_one (sm_if (tw_pt (tw_or (tm_not (tm_val (em_call c__law_same room gd tk (am_cons (em_call c__law_refused room gd tk (am_cons (em_var 4) (am_cons (em_tup (am_cons (em_var 5) (am_cons (em_var 7) (am_cons (em_var 8) am_nil)))) am_nil))) (am_cons (em_lst (am_cons (em_var 7) am_nil)) am_nil))))) (tw_or1 (tm_not (tm_val (em_call c__law_same room gd tk (am_cons (em_call c__law_refused room gd tk (am_cons (em_var 4) (am_cons (em_tup (am_cons (em_var 5) (am_cons em_int (am_cons (em_var 8) am_nil)))) am_nil))) (am_cons (em_lst (am_cons (em_var 8) am_nil)) am_nil)))))))) (ssm_one (sm_ret em_bl)) ssm_nil))))
      (ssm_one (sm_ret em_bl))))))
abbrev i_BadGraph : Stmt := (clsBody (topS 3)).getD 0 (.Pass ⟨0, 0, 0, 0⟩)
theorem ini_BadGraph {fI R : Addr} {mc : Value} {fd : FuncData} (F : Fun K "__init__" "BadGraph.__init__" i_BadGraph fI fd) (hm : mg "RateError" = some (.ref R)) (rd : ClX.CRead K R mc) (at_ : PySem.W.findCls K (.ref R) mc "__init__" = some (.val (.builtin "ValueError.__init__"))) : FnOk P w K mg base (L2.CX P w) 1 fI fd ["self", "place"] (spIni K "place") :=
  ini_ok F ⟨rfl, rfl, rfl, by decide +kernel, rfl, by decide +kernel, by decide +kernel⟩ fun X cd B out t H E e => by subst e; exact pss_cons (ps_expr (pe_baseInit rfl hm rd at_ (pa_cons (pv 0) pa_nil))) (pss_one (ps_ost (pv 0) (pv 1)))
abbrev i_BadNumber : Stmt := (clsBody (topS 2)).getD 0 (.Pass ⟨0, 0, 0, 0⟩)
theorem ini_BadNumber {fI R : Addr} {mc : Value} {fd : FuncData} (F : Fun K "__init__" "BadNumber.__init__" i_BadNumber fI fd) (hm : mg "RateError" = some (.ref R)) (rd : ClX.CRead K R mc) (at_ : PySem.W.findCls K (.ref R) mc "__init__" = some (.val (.builtin "ValueError.__init__"))) : FnOk P w K mg base (L2.CX P w) 1 fI fd ["self", "value"] (spIni K "value") :=
  ini_ok F ⟨rfl, rfl, rfl, by decide +kernel, rfl, by decide +kernel, by decide +kernel⟩ fun X cd B out t H E e => by subst e; exact pss_cons (ps_expr (pe_baseInit rfl hm rd at_ (pa_cons (pv 0) pa_nil))) (pss_one (ps_ost (pv 0) (pv 1)))
def clOf (C_BadGraph C_BadNumber : Addr) : Cl := fun c => if c = "BadGraph" then some (C_BadGraph, "place") else if c = "BadNumber" then some (C_BadNumber, "value") else none
noncomputable def tbOf (f_gave f_took f_need : Addr) : Tbl := fun a => if a = f_gave then some (3, m_gave) else if a = f_took then some (3, m_took) else if a = f_need then some (3, m_need) else none
theorem all_mk {P : Program} {w : World} {K : PySem.W.Frag} {h : Heap} {mg : Str → Option Value} {fa : Addr} (X : K.In h) (G : h.Ns mainGlobals mg) (hfa : mg "law" = some (.ref fa))
    {f_is_whole : Addr} {od_is_whole an_is_whole : Option Addr} {sl_is_whole : Array (Option Value)} {oc_is_whole kV_is_whole dc_is_whole pm_is_whole cd_is_whole ct_is_whole : Value}
    {f_is_between : Addr} {od_is_between an_is_between : Option Addr} {sl_is_between : Array (Option Value)} {oc_is_between kV_is_between dc_is_between pm_is_between cd_is_between ct_is_between : Value}
    {f_is_tuple_of : Addr} {od_is_tuple_of an_is_tuple_of : Option Addr} {sl_is_tuple_of : Array (Option Value)} {oc_is_tuple_of kV_is_tuple_of dc_is_tuple_of pm_is_tuple_of cd_is_tuple_of ct_is_tuple_of : Value}
    {f_are_between : Addr} {od_are_between an_are_between : Option Addr} {sl_are_between : Array (Option Value)} {oc_are_between kV_are_between dc_are_between pm_are_between cd_are_between ct_are_between : Value}
    {f_is_name : Addr} {od_is_name an_is_name : Option Addr} {sl_is_name : Array (Option Value)} {oc_is_name kV_is_name dc_is_name pm_is_name cd_is_name ct_is_name : Value}
    {f_need_number : Addr} {od_need_number an_need_number : Option Addr} {sl_need_number : Array (Option Value)} {oc_need_number kV_need_number dc_need_number pm_need_number cd_need_number ct_need_number : Value}
    {f_task_names : Addr} {od_task_names an_task_names : Option Addr} {sl_task_names : Array (Option Value)} {oc_task_names kV_task_names dc_task_names pm_task_names cd_task_names ct_task_names : Value}
    {f_is_task : Addr} {od_is_task an_is_task : Option Addr} {sl_is_task : Array (Option Value)} {oc_is_task kV_is_task dc_is_task pm_is_task cd_is_task ct_is_task : Value}
    {f_is_line : Addr} {od_is_line an_is_line : Option Addr} {sl_is_line : Array (Option Value)} {oc_is_line kV_is_line dc_is_line pm_is_line cd_is_line ct_is_line : Value}
    {f_has_graph_form : Addr} {od_has_graph_form an_has_graph_form : Option Addr} {sl_has_graph_form : Array (Option Value)} {oc_has_graph_form kV_has_graph_form dc_has_graph_form pm_has_graph_form cd_has_graph_form ct_has_graph_form : Value}
    {f_fits : Addr} {od_fits an_fits : Option Addr} {sl_fits : Array (Option Value)} {oc_fits kV_fits dc_fits pm_fits cd_fits ct_fits : Value}
    {f_look_at_graph : Addr} {od_look_at_graph an_look_at_graph : Option Addr} {sl_look_at_graph : Array (Option Value)} {oc_look_at_graph kV_look_at_graph dc_look_at_graph pm_look_at_graph cd_look_at_graph ct_look_at_graph : Value}
    {f_counted : Addr} {od_counted an_counted : Option Addr} {sl_counted : Array (Option Value)} {oc_counted kV_counted dc_counted pm_counted cd_counted ct_counted : Value}
    {f_least_count : Addr} {od_least_count an_least_count : Option Addr} {sl_least_count : Array (Option Value)} {oc_least_count kV_least_count dc_least_count pm_least_count cd_least_count ct_least_count : Value}
    {f_need_told : Addr} {od_need_told an_need_told : Option Addr} {sl_need_told : Array (Option Value)} {oc_need_told kV_need_told dc_need_told pm_need_told cd_need_told ct_need_told : Value}
    {f_look_at_line : Addr} {od_look_at_line an_look_at_line : Option Addr} {sl_look_at_line : Array (Option Value)} {oc_look_at_line kV_look_at_line dc_look_at_line pm_look_at_line cd_look_at_line ct_look_at_line : Value}
    {f_gave : Addr} {od_gave an_gave : Option Addr} {sl_gave : Array (Option Value)} {oc_gave kV_gave dc_gave pm_gave cd_gave ct_gave : Value}
    {f_took : Addr} {od_took an_took : Option Addr} {sl_took : Array (Option Value)} {oc_took kV_took dc_took pm_took cd_took ct_took : Value}
    {f_need : Addr} {od_need an_need : Option Addr} {sl_need : Array (Option Value)} {oc_need kV_need dc_need pm_need cd_need ct_need : Value}
    {f__law_source : Addr} {od__law_source an__law_source : Option Addr} {sl__law_source : Array (Option Value)} {oc__law_source kV__law_source dc__law_source pm__law_source cd__law_source ct__law_source : Value}
    {f__law_pick : Addr} {od__law_pick an__law_pick : Option Addr} {sl__law_pick : Array (Option Value)} {oc__law_pick kV__law_pick dc__law_pick pm__law_pick cd__law_pick ct__law_pick : Value}
    {f__law_one : Addr} {od__law_one an__law_one : Option Addr} {sl__law_one : Array (Option Value)} {oc__law_one kV__law_one dc__law_one pm__law_one cd__law_one ct__law_one : Value}
    {f__law_same : Addr} {od__law_same an__law_same : Option Addr} {sl__law_same : Array (Option Value)} {oc__law_same kV__law_same dc__law_same pm__law_same cd__law_same ct__law_same : Value}
    {f__law_called : Addr} {od__law_called an__law_called : Option Addr} {sl__law_called : Array (Option Value)} {oc__law_called kV__law_called dc__law_called pm__law_called cd__law_called ct__law_called : Value}
    {f__law_shared : Addr} {od__law_shared an__law_shared : Option Addr} {sl__law_shared : Array (Option Value)} {oc__law_shared kV__law_shared dc__law_shared pm__law_shared cd__law_shared ct__law_shared : Value}
    {f__law_parted : Addr} {od__law_parted an__law_parted : Option Addr} {sl__law_parted : Array (Option Value)} {oc__law_parted kV__law_parted dc__law_parted pm__law_parted cd__law_parted ct__law_parted : Value}
    {f__law_sum : Addr} {od__law_sum an__law_sum : Option Addr} {sl__law_sum : Array (Option Value)} {oc__law_sum kV__law_sum dc__law_sum pm__law_sum cd__law_sum ct__law_sum : Value}
    {f__law_far : Addr} {od__law_far an__law_far : Option Addr} {sl__law_far : Array (Option Value)} {oc__law_far kV__law_far dc__law_far pm__law_far cd__law_far ct__law_far : Value}
    {f__law_digits : Addr} {od__law_digits an__law_digits : Option Addr} {sl__law_digits : Array (Option Value)} {oc__law_digits kV__law_digits dc__law_digits pm__law_digits cd__law_digits ct__law_digits : Value}
    {f__law_rare : Addr} {od__law_rare an__law_rare : Option Addr} {sl__law_rare : Array (Option Value)} {oc__law_rare kV__law_rare dc__law_rare pm__law_rare cd__law_rare ct__law_rare : Value}
    {f__law_far_line : Addr} {od__law_far_line an__law_far_line : Option Addr} {sl__law_far_line : Array (Option Value)} {oc__law_far_line kV__law_far_line dc__law_far_line pm__law_far_line cd__law_far_line ct__law_far_line : Value}
    {f__law_rise : Addr} {od__law_rise an__law_rise : Option Addr} {sl__law_rise : Array (Option Value)} {oc__law_rise kV__law_rise dc__law_rise pm__law_rise cd__law_rise ct__law_rise : Value}
    {f__law_need_right : Addr} {od__law_need_right an__law_need_right : Option Addr} {sl__law_need_right : Array (Option Value)} {oc__law_need_right kV__law_need_right dc__law_need_right pm__law_need_right cd__law_need_right ct__law_need_right : Value}
    {f__law_line_right : Addr} {od__law_line_right an__law_line_right : Option Addr} {sl__law_line_right : Array (Option Value)} {oc__law_line_right kV__law_line_right dc__law_line_right pm__law_line_right cd__law_line_right ct__law_line_right : Value}
    {f__law_refused : Addr} {od__law_refused an__law_refused : Option Addr} {sl__law_refused : Array (Option Value)} {oc__law_refused kV__law_refused dc__law_refused pm__law_refused cd__law_refused ct__law_refused : Value}
    {f_law : Addr} {od_law an_law : Option Addr} {sl_law : Array (Option Value)} {oc_law kV_law dc_law pm_law cd_law ct_law : Value}
    {t_FIGURES : Tok}
    {t_LETTERS : Tok}
    {t_MOST_FIRINGS : Tok}
    {t_MOST_LINES : Tok}
    {t_MOST_PHASES : Tok}
    {t_MOST_STOCK : Tok}
    {t_MOST_TASKS : Tok}
    {R_RateError : Addr}
    {C_BadGraph fi_BadGraph N_BadGraph : Addr} {nm_BadGraph qn_BadGraph : Str} {bs_BadGraph bm_BadGraph : List Value} {sn_BadGraph : List Str} {sb_BadGraph : List Value} {ab_BadGraph : Bool} {co_BadGraph : Option Bool} {dd_BadGraph : Option Addr} {k0_BadGraph k1_BadGraph k2_BadGraph k3_BadGraph k5_BadGraph : Option Value}
    {iod_BadGraph ian_BadGraph : Option Addr} {isl_BadGraph : Array (Option Value)} {ioc_BadGraph ikV_BadGraph idc_BadGraph ipm_BadGraph icd_BadGraph ict_BadGraph : Value}
    {C_BadNumber fi_BadNumber N_BadNumber : Addr} {nm_BadNumber qn_BadNumber : Str} {bs_BadNumber bm_BadNumber : List Value} {sn_BadNumber : List Str} {sb_BadNumber : List Value} {ab_BadNumber : Bool} {co_BadNumber : Option Bool} {dd_BadNumber : Option Addr} {k0_BadNumber k1_BadNumber k2_BadNumber k3_BadNumber k5_BadNumber : Option Value}
    {iod_BadNumber ian_BadNumber : Option Addr} {isl_BadNumber : Array (Option Value)} {ioc_BadNumber ikV_BadNumber idc_BadNumber ipm_BadNumber icd_BadNumber ict_BadNumber : Value}
    (a_is_whole : PySem.W.nsIn K mainGlobals "is_whole" = some (some (.ref f_is_whole)))
    (l_is_whole : K.lookup f_is_whole = some ⟨oc_is_whole, od_is_whole, .func (PySem.W.fnOf "is_whole" "is_whole" (defArgs s_is_whole) (defBody s_is_whole) (defScope s_is_whole) .none kV_is_whole dc_is_whole pm_is_whole an_is_whole cd_is_whole ct_is_whole), sl_is_whole⟩)
    (c_is_whole : PySem.W.codeIn K cd_is_whole "is_whole" = true)
    (k_is_whole : PySem.W.keepIn K (.ref f_is_whole) = true)
    (a_is_between : PySem.W.nsIn K mainGlobals "is_between" = some (some (.ref f_is_between)))
    (l_is_between : K.lookup f_is_between = some ⟨oc_is_between, od_is_between, .func (PySem.W.fnOf "is_between" "is_between" (defArgs s_is_between) (defBody s_is_between) (defScope s_is_between) .none kV_is_between dc_is_between pm_is_between an_is_between cd_is_between ct_is_between), sl_is_between⟩)
    (c_is_between : PySem.W.codeIn K cd_is_between "is_between" = true)
    (k_is_between : PySem.W.keepIn K (.ref f_is_between) = true)
    (a_is_tuple_of : PySem.W.nsIn K mainGlobals "is_tuple_of" = some (some (.ref f_is_tuple_of)))
    (l_is_tuple_of : K.lookup f_is_tuple_of = some ⟨oc_is_tuple_of, od_is_tuple_of, .func (PySem.W.fnOf "is_tuple_of" "is_tuple_of" (defArgs s_is_tuple_of) (defBody s_is_tuple_of) (defScope s_is_tuple_of) .none kV_is_tuple_of dc_is_tuple_of pm_is_tuple_of an_is_tuple_of cd_is_tuple_of ct_is_tuple_of), sl_is_tuple_of⟩)
    (c_is_tuple_of : PySem.W.codeIn K cd_is_tuple_of "is_tuple_of" = true)
    (k_is_tuple_of : PySem.W.keepIn K (.ref f_is_tuple_of) = true)
    (a_are_between : PySem.W.nsIn K mainGlobals "are_between" = some (some (.ref f_are_between)))
    (l_are_between : K.lookup f_are_between = some ⟨oc_are_between, od_are_between, .func (PySem.W.fnOf "are_between" "are_between" (defArgs s_are_between) (defBody s_are_between) (defScope s_are_between) .none kV_are_between dc_are_between pm_are_between an_are_between cd_are_between ct_are_between), sl_are_between⟩)
    (c_are_between : PySem.W.codeIn K cd_are_between "are_between" = true)
    (k_are_between : PySem.W.keepIn K (.ref f_are_between) = true)
    (a_is_name : PySem.W.nsIn K mainGlobals "is_name" = some (some (.ref f_is_name)))
    (l_is_name : K.lookup f_is_name = some ⟨oc_is_name, od_is_name, .func (PySem.W.fnOf "is_name" "is_name" (defArgs s_is_name) (defBody s_is_name) (defScope s_is_name) .none kV_is_name dc_is_name pm_is_name an_is_name cd_is_name ct_is_name), sl_is_name⟩)
    (c_is_name : PySem.W.codeIn K cd_is_name "is_name" = true)
    (k_is_name : PySem.W.keepIn K (.ref f_is_name) = true)
    (a_need_number : PySem.W.nsIn K mainGlobals "need_number" = some (some (.ref f_need_number)))
    (l_need_number : K.lookup f_need_number = some ⟨oc_need_number, od_need_number, .func (PySem.W.fnOf "need_number" "need_number" (defArgs s_need_number) (defBody s_need_number) (defScope s_need_number) .none kV_need_number dc_need_number pm_need_number an_need_number cd_need_number ct_need_number), sl_need_number⟩)
    (c_need_number : PySem.W.codeIn K cd_need_number "need_number" = true)
    (k_need_number : PySem.W.keepIn K (.ref f_need_number) = true)
    (a_task_names : PySem.W.nsIn K mainGlobals "task_names" = some (some (.ref f_task_names)))
    (l_task_names : K.lookup f_task_names = some ⟨oc_task_names, od_task_names, .func (PySem.W.fnOf "task_names" "task_names" (defArgs s_task_names) (defBody s_task_names) (defScope s_task_names) .none kV_task_names dc_task_names pm_task_names an_task_names cd_task_names ct_task_names), sl_task_names⟩)
    (c_task_names : PySem.W.codeIn K cd_task_names "task_names" = true)
    (k_task_names : PySem.W.keepIn K (.ref f_task_names) = true)
    (a_is_task : PySem.W.nsIn K mainGlobals "is_task" = some (some (.ref f_is_task)))
    (l_is_task : K.lookup f_is_task = some ⟨oc_is_task, od_is_task, .func (PySem.W.fnOf "is_task" "is_task" (defArgs s_is_task) (defBody s_is_task) (defScope s_is_task) .none kV_is_task dc_is_task pm_is_task an_is_task cd_is_task ct_is_task), sl_is_task⟩)
    (c_is_task : PySem.W.codeIn K cd_is_task "is_task" = true)
    (k_is_task : PySem.W.keepIn K (.ref f_is_task) = true)
    (a_is_line : PySem.W.nsIn K mainGlobals "is_line" = some (some (.ref f_is_line)))
    (l_is_line : K.lookup f_is_line = some ⟨oc_is_line, od_is_line, .func (PySem.W.fnOf "is_line" "is_line" (defArgs s_is_line) (defBody s_is_line) (defScope s_is_line) .none kV_is_line dc_is_line pm_is_line an_is_line cd_is_line ct_is_line), sl_is_line⟩)
    (c_is_line : PySem.W.codeIn K cd_is_line "is_line" = true)
    (k_is_line : PySem.W.keepIn K (.ref f_is_line) = true)
    (a_has_graph_form : PySem.W.nsIn K mainGlobals "has_graph_form" = some (some (.ref f_has_graph_form)))
    (l_has_graph_form : K.lookup f_has_graph_form = some ⟨oc_has_graph_form, od_has_graph_form, .func (PySem.W.fnOf "has_graph_form" "has_graph_form" (defArgs s_has_graph_form) (defBody s_has_graph_form) (defScope s_has_graph_form) .none kV_has_graph_form dc_has_graph_form pm_has_graph_form an_has_graph_form cd_has_graph_form ct_has_graph_form), sl_has_graph_form⟩)
    (c_has_graph_form : PySem.W.codeIn K cd_has_graph_form "has_graph_form" = true)
    (k_has_graph_form : PySem.W.keepIn K (.ref f_has_graph_form) = true)
    (a_fits : PySem.W.nsIn K mainGlobals "fits" = some (some (.ref f_fits)))
    (l_fits : K.lookup f_fits = some ⟨oc_fits, od_fits, .func (PySem.W.fnOf "fits" "fits" (defArgs s_fits) (defBody s_fits) (defScope s_fits) .none kV_fits dc_fits pm_fits an_fits cd_fits ct_fits), sl_fits⟩)
    (c_fits : PySem.W.codeIn K cd_fits "fits" = true)
    (k_fits : PySem.W.keepIn K (.ref f_fits) = true)
    (a_look_at_graph : PySem.W.nsIn K mainGlobals "look_at_graph" = some (some (.ref f_look_at_graph)))
    (l_look_at_graph : K.lookup f_look_at_graph = some ⟨oc_look_at_graph, od_look_at_graph, .func (PySem.W.fnOf "look_at_graph" "look_at_graph" (defArgs s_look_at_graph) (defBody s_look_at_graph) (defScope s_look_at_graph) .none kV_look_at_graph dc_look_at_graph pm_look_at_graph an_look_at_graph cd_look_at_graph ct_look_at_graph), sl_look_at_graph⟩)
    (c_look_at_graph : PySem.W.codeIn K cd_look_at_graph "look_at_graph" = true)
    (k_look_at_graph : PySem.W.keepIn K (.ref f_look_at_graph) = true)
    (a_counted : PySem.W.nsIn K mainGlobals "counted" = some (some (.ref f_counted)))
    (l_counted : K.lookup f_counted = some ⟨oc_counted, od_counted, .func (PySem.W.fnOf "counted" "counted" (defArgs s_counted) (defBody s_counted) (defScope s_counted) .none kV_counted dc_counted pm_counted an_counted cd_counted ct_counted), sl_counted⟩)
    (c_counted : PySem.W.codeIn K cd_counted "counted" = true)
    (k_counted : PySem.W.keepIn K (.ref f_counted) = true)
    (a_least_count : PySem.W.nsIn K mainGlobals "least_count" = some (some (.ref f_least_count)))
    (l_least_count : K.lookup f_least_count = some ⟨oc_least_count, od_least_count, .func (PySem.W.fnOf "least_count" "least_count" (defArgs s_least_count) (defBody s_least_count) (defScope s_least_count) .none kV_least_count dc_least_count pm_least_count an_least_count cd_least_count ct_least_count), sl_least_count⟩)
    (c_least_count : PySem.W.codeIn K cd_least_count "least_count" = true)
    (k_least_count : PySem.W.keepIn K (.ref f_least_count) = true)
    (a_need_told : PySem.W.nsIn K mainGlobals "need_told" = some (some (.ref f_need_told)))
    (l_need_told : K.lookup f_need_told = some ⟨oc_need_told, od_need_told, .func (PySem.W.fnOf "need_told" "need_told" (defArgs s_need_told) (defBody s_need_told) (defScope s_need_told) .none kV_need_told dc_need_told pm_need_told an_need_told cd_need_told ct_need_told), sl_need_told⟩)
    (c_need_told : PySem.W.codeIn K cd_need_told "need_told" = true)
    (k_need_told : PySem.W.keepIn K (.ref f_need_told) = true)
    (a_look_at_line : PySem.W.nsIn K mainGlobals "look_at_line" = some (some (.ref f_look_at_line)))
    (l_look_at_line : K.lookup f_look_at_line = some ⟨oc_look_at_line, od_look_at_line, .func (PySem.W.fnOf "look_at_line" "look_at_line" (defArgs s_look_at_line) (defBody s_look_at_line) (defScope s_look_at_line) .none kV_look_at_line dc_look_at_line pm_look_at_line an_look_at_line cd_look_at_line ct_look_at_line), sl_look_at_line⟩)
    (c_look_at_line : PySem.W.codeIn K cd_look_at_line "look_at_line" = true)
    (k_look_at_line : PySem.W.keepIn K (.ref f_look_at_line) = true)
    (a_gave : PySem.W.nsIn K mainGlobals "gave" = some (some (.ref f_gave)))
    (l_gave : K.lookup f_gave = some ⟨oc_gave, od_gave, .func (PySem.W.fnOf "gave" "gave" (defArgs s_gave) (defBody s_gave) (defScope s_gave) .none kV_gave dc_gave pm_gave an_gave cd_gave ct_gave), sl_gave⟩)
    (c_gave : PySem.W.codeIn K cd_gave "gave" = true)
    (k_gave : PySem.W.keepIn K (.ref f_gave) = true)
    (a_took : PySem.W.nsIn K mainGlobals "took" = some (some (.ref f_took)))
    (l_took : K.lookup f_took = some ⟨oc_took, od_took, .func (PySem.W.fnOf "took" "took" (defArgs s_took) (defBody s_took) (defScope s_took) .none kV_took dc_took pm_took an_took cd_took ct_took), sl_took⟩)
    (c_took : PySem.W.codeIn K cd_took "took" = true)
    (k_took : PySem.W.keepIn K (.ref f_took) = true)
    (a_need : PySem.W.nsIn K mainGlobals "need" = some (some (.ref f_need)))
    (l_need : K.lookup f_need = some ⟨oc_need, od_need, .func (PySem.W.fnOf "need" "need" (defArgs s_need) (defBody s_need) (defScope s_need) .none kV_need dc_need pm_need an_need cd_need ct_need), sl_need⟩)
    (c_need : PySem.W.codeIn K cd_need "need" = true)
    (k_need : PySem.W.keepIn K (.ref f_need) = true)
    (a__law_source : PySem.W.nsIn K mainGlobals "_law_source" = some (some (.ref f__law_source)))
    (l__law_source : K.lookup f__law_source = some ⟨oc__law_source, od__law_source, .func (PySem.W.fnOf "_law_source" "_law_source" (defArgs s__law_source) (defBody s__law_source) (defScope s__law_source) .none kV__law_source dc__law_source pm__law_source an__law_source cd__law_source ct__law_source), sl__law_source⟩)
    (c__law_source : PySem.W.codeIn K cd__law_source "_law_source" = true)
    (k__law_source : PySem.W.keepIn K (.ref f__law_source) = true)
    (a__law_pick : PySem.W.nsIn K mainGlobals "_law_pick" = some (some (.ref f__law_pick)))
    (l__law_pick : K.lookup f__law_pick = some ⟨oc__law_pick, od__law_pick, .func (PySem.W.fnOf "_law_pick" "_law_pick" (defArgs s__law_pick) (defBody s__law_pick) (defScope s__law_pick) .none kV__law_pick dc__law_pick pm__law_pick an__law_pick cd__law_pick ct__law_pick), sl__law_pick⟩)
    (c__law_pick : PySem.W.codeIn K cd__law_pick "_law_pick" = true)
    (k__law_pick : PySem.W.keepIn K (.ref f__law_pick) = true)
    (a__law_one : PySem.W.nsIn K mainGlobals "_law_one" = some (some (.ref f__law_one)))
    (l__law_one : K.lookup f__law_one = some ⟨oc__law_one, od__law_one, .func (PySem.W.fnOf "_law_one" "_law_one" (defArgs s__law_one) (defBody s__law_one) (defScope s__law_one) .none kV__law_one dc__law_one pm__law_one an__law_one cd__law_one ct__law_one), sl__law_one⟩)
    (c__law_one : PySem.W.codeIn K cd__law_one "_law_one" = true)
    (k__law_one : PySem.W.keepIn K (.ref f__law_one) = true)
    (a__law_same : PySem.W.nsIn K mainGlobals "_law_same" = some (some (.ref f__law_same)))
    (l__law_same : K.lookup f__law_same = some ⟨oc__law_same, od__law_same, .func (PySem.W.fnOf "_law_same" "_law_same" (defArgs s__law_same) (defBody s__law_same) (defScope s__law_same) .none kV__law_same dc__law_same pm__law_same an__law_same cd__law_same ct__law_same), sl__law_same⟩)
    (c__law_same : PySem.W.codeIn K cd__law_same "_law_same" = true)
    (k__law_same : PySem.W.keepIn K (.ref f__law_same) = true)
    (a__law_called : PySem.W.nsIn K mainGlobals "_law_called" = some (some (.ref f__law_called)))
    (l__law_called : K.lookup f__law_called = some ⟨oc__law_called, od__law_called, .func (PySem.W.fnOf "_law_called" "_law_called" (defArgs s__law_called) (defBody s__law_called) (defScope s__law_called) .none kV__law_called dc__law_called pm__law_called an__law_called cd__law_called ct__law_called), sl__law_called⟩)
    (c__law_called : PySem.W.codeIn K cd__law_called "_law_called" = true)
    (k__law_called : PySem.W.keepIn K (.ref f__law_called) = true)
    (a__law_shared : PySem.W.nsIn K mainGlobals "_law_shared" = some (some (.ref f__law_shared)))
    (l__law_shared : K.lookup f__law_shared = some ⟨oc__law_shared, od__law_shared, .func (PySem.W.fnOf "_law_shared" "_law_shared" (defArgs s__law_shared) (defBody s__law_shared) (defScope s__law_shared) .none kV__law_shared dc__law_shared pm__law_shared an__law_shared cd__law_shared ct__law_shared), sl__law_shared⟩)
    (c__law_shared : PySem.W.codeIn K cd__law_shared "_law_shared" = true)
    (k__law_shared : PySem.W.keepIn K (.ref f__law_shared) = true)
    (a__law_parted : PySem.W.nsIn K mainGlobals "_law_parted" = some (some (.ref f__law_parted)))
    (l__law_parted : K.lookup f__law_parted = some ⟨oc__law_parted, od__law_parted, .func (PySem.W.fnOf "_law_parted" "_law_parted" (defArgs s__law_parted) (defBody s__law_parted) (defScope s__law_parted) .none kV__law_parted dc__law_parted pm__law_parted an__law_parted cd__law_parted ct__law_parted), sl__law_parted⟩)
    (c__law_parted : PySem.W.codeIn K cd__law_parted "_law_parted" = true)
    (k__law_parted : PySem.W.keepIn K (.ref f__law_parted) = true)
    (a__law_sum : PySem.W.nsIn K mainGlobals "_law_sum" = some (some (.ref f__law_sum)))
    (l__law_sum : K.lookup f__law_sum = some ⟨oc__law_sum, od__law_sum, .func (PySem.W.fnOf "_law_sum" "_law_sum" (defArgs s__law_sum) (defBody s__law_sum) (defScope s__law_sum) .none kV__law_sum dc__law_sum pm__law_sum an__law_sum cd__law_sum ct__law_sum), sl__law_sum⟩)
    (c__law_sum : PySem.W.codeIn K cd__law_sum "_law_sum" = true)
    (k__law_sum : PySem.W.keepIn K (.ref f__law_sum) = true)
    (a__law_far : PySem.W.nsIn K mainGlobals "_law_far" = some (some (.ref f__law_far)))
    (l__law_far : K.lookup f__law_far = some ⟨oc__law_far, od__law_far, .func (PySem.W.fnOf "_law_far" "_law_far" (defArgs s__law_far) (defBody s__law_far) (defScope s__law_far) .none kV__law_far dc__law_far pm__law_far an__law_far cd__law_far ct__law_far), sl__law_far⟩)
    (c__law_far : PySem.W.codeIn K cd__law_far "_law_far" = true)
    (k__law_far : PySem.W.keepIn K (.ref f__law_far) = true)
    (a__law_digits : PySem.W.nsIn K mainGlobals "_law_digits" = some (some (.ref f__law_digits)))
    (l__law_digits : K.lookup f__law_digits = some ⟨oc__law_digits, od__law_digits, .func (PySem.W.fnOf "_law_digits" "_law_digits" (defArgs s__law_digits) (defBody s__law_digits) (defScope s__law_digits) .none kV__law_digits dc__law_digits pm__law_digits an__law_digits cd__law_digits ct__law_digits), sl__law_digits⟩)
    (c__law_digits : PySem.W.codeIn K cd__law_digits "_law_digits" = true)
    (k__law_digits : PySem.W.keepIn K (.ref f__law_digits) = true)
    (a__law_rare : PySem.W.nsIn K mainGlobals "_law_rare" = some (some (.ref f__law_rare)))
    (l__law_rare : K.lookup f__law_rare = some ⟨oc__law_rare, od__law_rare, .func (PySem.W.fnOf "_law_rare" "_law_rare" (defArgs s__law_rare) (defBody s__law_rare) (defScope s__law_rare) .none kV__law_rare dc__law_rare pm__law_rare an__law_rare cd__law_rare ct__law_rare), sl__law_rare⟩)
    (c__law_rare : PySem.W.codeIn K cd__law_rare "_law_rare" = true)
    (k__law_rare : PySem.W.keepIn K (.ref f__law_rare) = true)
    (a__law_far_line : PySem.W.nsIn K mainGlobals "_law_far_line" = some (some (.ref f__law_far_line)))
    (l__law_far_line : K.lookup f__law_far_line = some ⟨oc__law_far_line, od__law_far_line, .func (PySem.W.fnOf "_law_far_line" "_law_far_line" (defArgs s__law_far_line) (defBody s__law_far_line) (defScope s__law_far_line) .none kV__law_far_line dc__law_far_line pm__law_far_line an__law_far_line cd__law_far_line ct__law_far_line), sl__law_far_line⟩)
    (c__law_far_line : PySem.W.codeIn K cd__law_far_line "_law_far_line" = true)
    (k__law_far_line : PySem.W.keepIn K (.ref f__law_far_line) = true)
    (a__law_rise : PySem.W.nsIn K mainGlobals "_law_rise" = some (some (.ref f__law_rise)))
    (l__law_rise : K.lookup f__law_rise = some ⟨oc__law_rise, od__law_rise, .func (PySem.W.fnOf "_law_rise" "_law_rise" (defArgs s__law_rise) (defBody s__law_rise) (defScope s__law_rise) .none kV__law_rise dc__law_rise pm__law_rise an__law_rise cd__law_rise ct__law_rise), sl__law_rise⟩)
    (c__law_rise : PySem.W.codeIn K cd__law_rise "_law_rise" = true)
    (k__law_rise : PySem.W.keepIn K (.ref f__law_rise) = true)
    (a__law_need_right : PySem.W.nsIn K mainGlobals "_law_need_right" = some (some (.ref f__law_need_right)))
    (l__law_need_right : K.lookup f__law_need_right = some ⟨oc__law_need_right, od__law_need_right, .func (PySem.W.fnOf "_law_need_right" "_law_need_right" (defArgs s__law_need_right) (defBody s__law_need_right) (defScope s__law_need_right) .none kV__law_need_right dc__law_need_right pm__law_need_right an__law_need_right cd__law_need_right ct__law_need_right), sl__law_need_right⟩)
    (c__law_need_right : PySem.W.codeIn K cd__law_need_right "_law_need_right" = true)
    (k__law_need_right : PySem.W.keepIn K (.ref f__law_need_right) = true)
    (a__law_line_right : PySem.W.nsIn K mainGlobals "_law_line_right" = some (some (.ref f__law_line_right)))
    (l__law_line_right : K.lookup f__law_line_right = some ⟨oc__law_line_right, od__law_line_right, .func (PySem.W.fnOf "_law_line_right" "_law_line_right" (defArgs s__law_line_right) (defBody s__law_line_right) (defScope s__law_line_right) .none kV__law_line_right dc__law_line_right pm__law_line_right an__law_line_right cd__law_line_right ct__law_line_right), sl__law_line_right⟩)
    (c__law_line_right : PySem.W.codeIn K cd__law_line_right "_law_line_right" = true)
    (k__law_line_right : PySem.W.keepIn K (.ref f__law_line_right) = true)
    (a__law_refused : PySem.W.nsIn K mainGlobals "_law_refused" = some (some (.ref f__law_refused)))
    (l__law_refused : K.lookup f__law_refused = some ⟨oc__law_refused, od__law_refused, .func (PySem.W.fnOf "_law_refused" "_law_refused" (defArgs s__law_refused) (defBody s__law_refused) (defScope s__law_refused) .none kV__law_refused dc__law_refused pm__law_refused an__law_refused cd__law_refused ct__law_refused), sl__law_refused⟩)
    (c__law_refused : PySem.W.codeIn K cd__law_refused "_law_refused" = true)
    (k__law_refused : PySem.W.keepIn K (.ref f__law_refused) = true)
    (a_law : PySem.W.nsIn K mainGlobals "law" = some (some (.ref f_law)))
    (l_law : K.lookup f_law = some ⟨oc_law, od_law, .func (PySem.W.fnOf "law" "law" (defArgs s_law) (defBody s_law) (defScope s_law) .none kV_law dc_law pm_law an_law cd_law ct_law), sl_law⟩)
    (c_law : PySem.W.codeIn K cd_law "law" = true)
    (k_law : PySem.W.keepIn K (.ref f_law) = true)
    (g_FIGURES : PySem.W.nsIn K mainGlobals "FIGURES" = some (some (.str "0123456789" t_FIGURES)))
    (g_LETTERS : PySem.W.nsIn K mainGlobals "LETTERS" = some (some (.str "abcdefghijklmnopqrstuvwxyz" t_LETTERS)))
    (g_MOST_FIRINGS : PySem.W.nsIn K mainGlobals "MOST_FIRINGS" = some (some (.int 100000 t_MOST_FIRINGS)))
    (g_MOST_LINES : PySem.W.nsIn K mainGlobals "MOST_LINES" = some (some (.int 60 t_MOST_LINES)))
    (g_MOST_PHASES : PySem.W.nsIn K mainGlobals "MOST_PHASES" = some (some (.int 24 t_MOST_PHASES)))
    (g_MOST_STOCK : PySem.W.nsIn K mainGlobals "MOST_STOCK" = some (some (.int 99999 t_MOST_STOCK)))
    (g_MOST_TASKS : PySem.W.nsIn K mainGlobals "MOST_TASKS" = some (some (.int 24 t_MOST_TASKS)))
    (b_all : PySem.W.nsIn K mainGlobals "all" = some none)
    (b_bool : PySem.W.nsIn K mainGlobals "bool" = some none)
    (b_divmod : PySem.W.nsIn K mainGlobals "divmod" = some none)
    (b_int : PySem.W.nsIn K mainGlobals "int" = some none)
    (b_isinstance : PySem.W.nsIn K mainGlobals "isinstance" = some none)
    (b_len : PySem.W.nsIn K mainGlobals "len" = some none)
    (b_list : PySem.W.nsIn K mainGlobals "list" = some none)
    (b_max : PySem.W.nsIn K mainGlobals "max" = some none)
    (b_min : PySem.W.nsIn K mainGlobals "min" = some none)
    (b_range : PySem.W.nsIn K mainGlobals "range" = some none)
    (b_repr : PySem.W.nsIn K mainGlobals "repr" = some none)
    (b_set : PySem.W.nsIn K mainGlobals "set" = some none)
    (b_str : PySem.W.nsIn K mainGlobals "str" = some none)
    (b_sum : PySem.W.nsIn K mainGlobals "sum" = some none)
    (b_tuple : PySem.W.nsIn K mainGlobals "tuple" = some none)
    (a_RateError : PySem.W.nsIn K mainGlobals "RateError" = some (some (.ref R_RateError)))
    (rd_RateError : PySem.W.readsIn K R_RateError (.type "type") = true)
    (ga_RateError : PySem.W.specialIn K (.ref R_RateError) "__getattribute__" = some (some (.builtin "type.__getattribute__")))
    (ai_RateError : PySem.W.findCls K (.ref R_RateError) (.type "type") "__init__" = some (.val (.builtin "ValueError.__init__")))
    (a_BadGraph : PySem.W.nsIn K mainGlobals "BadGraph" = some (some (.ref C_BadGraph)))
    (xl_BadGraph : K.lookup C_BadGraph = some (excClassObj nm_BadGraph qn_BadGraph C_BadGraph N_BadGraph bs_BadGraph bm_BadGraph true sn_BadGraph sb_BadGraph ab_BadGraph co_BadGraph dd_BadGraph k0_BadGraph k1_BadGraph k2_BadGraph k3_BadGraph k5_BadGraph "ValueError.__new__"))
    (bm_BadGraph' : PySem.HandSPX.refsVE bm_BadGraph = true)
    (sa_BadGraph : PySem.W.findIn K (.ref C_BadGraph) "__setattr__" = some (some (.builtin "object.__setattr__")))
    (ex_BadGraph : PySem.W.subIn K (.ref C_BadGraph) (.type "BaseException") = some true)
    (ty_BadGraph : PySem.W.typeIn K (.ref C_BadGraph) = some (.type "type"))
    (ke_BadGraph : PySem.W.keepIn K (.ref C_BadGraph) = true)
    (in_BadGraph : PySem.W.findIn K (.ref C_BadGraph) "__init__" = some (some (.ref fi_BadGraph)))
    (ti_BadGraph : PySem.W.typeIn K (.ref fi_BadGraph) = some (.type "function"))
    (nf_BadGraph : PySem.W.findIn K (.ref C_BadGraph) "place" = some none)
    (il_BadGraph : K.lookup fi_BadGraph = some ⟨ioc_BadGraph, iod_BadGraph, .func (PySem.W.fnOf "__init__" "BadGraph.__init__" (defArgs i_BadGraph) (defBody i_BadGraph) (defScope i_BadGraph) .none ikV_BadGraph idc_BadGraph ipm_BadGraph ian_BadGraph icd_BadGraph ict_BadGraph), isl_BadGraph⟩)
    (ic_BadGraph : PySem.W.codeIn K icd_BadGraph "BadGraph.__init__" = true)
    (ik_BadGraph : PySem.W.keepIn K (.ref fi_BadGraph) = true)
    (a_BadNumber : PySem.W.nsIn K mainGlobals "BadNumber" = some (some (.ref C_BadNumber)))
    (xl_BadNumber : K.lookup C_BadNumber = some (excClassObj nm_BadNumber qn_BadNumber C_BadNumber N_BadNumber bs_BadNumber bm_BadNumber true sn_BadNumber sb_BadNumber ab_BadNumber co_BadNumber dd_BadNumber k0_BadNumber k1_BadNumber k2_BadNumber k3_BadNumber k5_BadNumber "ValueError.__new__"))
    (bm_BadNumber' : PySem.HandSPX.refsVE bm_BadNumber = true)
    (sa_BadNumber : PySem.W.findIn K (.ref C_BadNumber) "__setattr__" = some (some (.builtin "object.__setattr__")))
    (ex_BadNumber : PySem.W.subIn K (.ref C_BadNumber) (.type "BaseException") = some true)
    (ty_BadNumber : PySem.W.typeIn K (.ref C_BadNumber) = some (.type "type"))
    (ke_BadNumber : PySem.W.keepIn K (.ref C_BadNumber) = true)
    (in_BadNumber : PySem.W.findIn K (.ref C_BadNumber) "__init__" = some (some (.ref fi_BadNumber)))
    (ti_BadNumber : PySem.W.typeIn K (.ref fi_BadNumber) = some (.type "function"))
    (nf_BadNumber : PySem.W.findIn K (.ref C_BadNumber) "value" = some none)
    (il_BadNumber : K.lookup fi_BadNumber = some ⟨ioc_BadNumber, iod_BadNumber, .func (PySem.W.fnOf "__init__" "BadNumber.__init__" (defArgs i_BadNumber) (defBody i_BadNumber) (defScope i_BadNumber) .none ikV_BadNumber idc_BadNumber ipm_BadNumber ian_BadNumber icd_BadNumber ict_BadNumber), isl_BadNumber⟩)
    (ic_BadNumber : PySem.W.codeIn K icd_BadNumber "BadNumber.__init__" = true)
    (ik_BadNumber : PySem.W.keepIn K (.ref fi_BadNumber) = true)
    (xa_BadNumber : PySem.W.findIn K (.ref C_BadNumber) "__getattribute__" = some (some (.builtin "BaseException.__getattribute__")))
    (xg_BadNumber : PySem.W.findIn K (.ref C_BadNumber) "__getattr__" = some none)
    (xd_BadNumber : PySem.W.hasDictIn K C_BadNumber = true)
    (xm_BadNumber_BadGraph : PySem.W.exmOne K (.ref C_BadGraph) (.ref C_BadNumber) = some false)
    (xm_BadNumber_BadNumber : PySem.W.exmOne K (.ref C_BadNumber) (.ref C_BadNumber) = some true)
    (ne_gave_took : f_gave ≠ f_took)
    (ne_gave_need : f_gave ≠ f_need)
    (ne_took_need : f_took ≠ f_need)
    (true_ : ∀ ns : List Int, ns.length ≤ 63 → ∃ S, m_law (tbOf f_gave f_took f_need) f_gave f_took f_need [.scr ns] [] = .ok (.bl true) S) :
    ∃ (fd : FuncData) (cl : Cl) (m : Fm), (∀ (s : Shared) (u : Value), BindsTo s fd ⟨[u], []⟩ [("script", u)]) ∧ (∀ ns : List Int, ns.length ≤ 63 → ∃ S, m [.scr ns] [] = .ok (.bl true) S) ∧ ∀ base : Heap, K.In base → base.Ns mainGlobals mg → FnM P w K mg base cl 11 fa fd ["script"] m := by
  have e := hfa.symm.trans (PySem.W.mg_of X G a_law)
  cases e
  have F := fun_mk (st := s_law) l_law c_law k_law
  refine ⟨PySem.W.fnOf "law" "law" (defArgs s_law) (defBody s_law) (defScope s_law) .none kV_law dc_law pm_law an_law cd_law ct_law, clOf C_BadGraph C_BadNumber, m_law (tbOf f_gave f_took f_need) f_gave f_took f_need, fun s u => .of_eq rfl, true_, fun base _ _ => ?_⟩
  have G_BadGraph := PySem.W.mg_of X G a_BadGraph
  have I_BadGraph := fun_mk (st := i_BadGraph) il_BadGraph ic_BadGraph ik_BadGraph
  have G_BadNumber := PySem.W.mg_of X G a_BadNumber
  have I_BadNumber := fun_mk (st := i_BadNumber) il_BadNumber ic_BadNumber ik_BadNumber
  have z : Tx P w K mg base (clOf C_BadGraph C_BadNumber) := {
    d_is_whole := def_mk X G a_is_whole l_is_whole c_is_whole k_is_whole fun _ _ _ _ _ _ us hl => match us, hl with | [_], _ => rfl,
    d_is_between := def_mk X G a_is_between l_is_between c_is_between k_is_between fun _ _ _ _ _ _ us hl => match us, hl with | [_, _, _], _ => rfl,
    d_is_tuple_of := def_mk X G a_is_tuple_of l_is_tuple_of c_is_tuple_of k_is_tuple_of fun _ _ _ _ _ _ us hl => match us, hl with | [_, _, _], _ => rfl,
    d_are_between := def_mk X G a_are_between l_are_between c_are_between k_are_between fun _ _ _ _ _ _ us hl => match us, hl with | [_, _, _], _ => rfl,
    d_is_name := def_mk X G a_is_name l_is_name c_is_name k_is_name fun _ _ _ _ _ _ us hl => match us, hl with | [_], _ => rfl,
    d_need_number := def_mk X G a_need_number l_need_number c_need_number k_need_number fun _ _ _ _ _ _ us hl => match us, hl with | [_, _, _], _ => rfl,
    d_task_names := def_mk X G a_task_names l_task_names c_task_names k_task_names fun _ _ _ _ _ _ us hl => match us, hl with | [_], _ => rfl,
    d_is_task := def_mk X G a_is_task l_is_task c_is_task k_is_task fun _ _ _ _ _ _ us hl => match us, hl with | [_], _ => rfl,
    d_is_line := def_mk X G a_is_line l_is_line c_is_line k_is_line fun _ _ _ _ _ _ us hl => match us, hl with | [_], _ => rfl,
    d_has_graph_form := def_mk X G a_has_graph_form l_has_graph_form c_has_graph_form k_has_graph_form fun _ _ _ _ _ _ us hl => match us, hl with | [_], _ => rfl,
    d_fits := def_mk X G a_fits l_fits c_fits k_fits fun _ _ _ _ _ _ us hl => match us, hl with | [_, _], _ => rfl,
    d_look_at_graph := def_mk X G a_look_at_graph l_look_at_graph c_look_at_graph k_look_at_graph fun _ _ _ _ _ _ us hl => match us, hl with | [_], _ => rfl,
    d_counted := def_mk X G a_counted l_counted c_counted k_counted fun _ _ _ _ _ _ us hl => match us, hl with | [_, _], _ => rfl,
    d_least_count := def_mk X G a_least_count l_least_count c_least_count k_least_count fun _ _ _ _ _ _ us hl => match us, hl with | [_, _], _ => rfl,
    d_need_told := def_mk X G a_need_told l_need_told c_need_told k_need_told fun _ _ _ _ _ _ us hl => match us, hl with | [_, _], _ => rfl,
    d_look_at_line := def_mk X G a_look_at_line l_look_at_line c_look_at_line k_look_at_line fun _ _ _ _ _ _ us hl => match us, hl with | [_, _], _ => rfl,
    d_gave := def_mk X G a_gave l_gave c_gave k_gave fun _ _ _ _ _ _ us hl => match us, hl with | [_, _, _], _ => rfl,
    d_took := def_mk X G a_took l_took c_took k_took fun _ _ _ _ _ _ us hl => match us, hl with | [_, _, _], _ => rfl,
    d_need := def_mk X G a_need l_need c_need k_need fun _ _ _ _ _ _ us hl => match us, hl with | [_, _, _], _ => rfl,
    d__law_source := def_mk X G a__law_source l__law_source c__law_source k__law_source fun _ _ _ _ _ _ us hl => match us, hl with | [_], _ => rfl,
    d__law_pick := def_mk X G a__law_pick l__law_pick c__law_pick k__law_pick fun _ _ _ _ _ _ us hl => match us, hl with | [_, _], _ => rfl,
    d__law_one := def_mk X G a__law_one l__law_one c__law_one k__law_one fun _ _ _ _ _ _ us hl => match us, hl with | [_, _], _ => rfl,
    d__law_same := def_mk X G a__law_same l__law_same c__law_same k__law_same fun _ _ _ _ _ _ us hl => match us, hl with | [_, _], _ => rfl,
    d__law_called := def_mk X G a__law_called l__law_called c__law_called k__law_called fun _ _ _ _ _ _ us hl => match us, hl with | [_, _], _ => rfl,
    d__law_shared := def_mk X G a__law_shared l__law_shared c__law_shared k__law_shared fun _ _ _ _ _ _ us hl => match us, hl with | [_, _], _ => rfl,
    d__law_parted := def_mk X G a__law_parted l__law_parted c__law_parted k__law_parted fun _ _ _ _ _ _ us hl => match us, hl with | [_, _, _], _ => rfl,
    d__law_sum := def_mk X G a__law_sum l__law_sum c__law_sum k__law_sum fun _ _ _ _ _ _ us hl => match us, hl with | [_, _], _ => rfl,
    d__law_far := def_mk X G a__law_far l__law_far c__law_far k__law_far fun _ _ _ _ _ _ us hl => match us, hl with | [_, _], _ => rfl,
    d__law_digits := def_mk X G a__law_digits l__law_digits c__law_digits k__law_digits fun _ _ _ _ _ _ us hl => match us, hl with | [_, _], _ => rfl,
    d__law_rare := def_mk X G a__law_rare l__law_rare c__law_rare k__law_rare fun _ _ _ _ _ _ us hl => match us, hl with | [_, _], _ => rfl,
    d__law_far_line := def_mk X G a__law_far_line l__law_far_line c__law_far_line k__law_far_line fun _ _ _ _ _ _ us hl => match us, hl with | [_], _ => rfl,
    d__law_rise := def_mk X G a__law_rise l__law_rise c__law_rise k__law_rise fun _ _ _ _ _ _ us hl => match us, hl with | [_, _], _ => rfl,
    d__law_need_right := def_mk X G a__law_need_right l__law_need_right c__law_need_right k__law_need_right fun _ _ _ _ _ _ us hl => match us, hl with | [_, _, _], _ => rfl,
    d__law_line_right := def_mk X G a__law_line_right l__law_line_right c__law_line_right k__law_line_right fun _ _ _ _ _ _ us hl => match us, hl with | [_, _, _], _ => rfl,
    d__law_refused := def_mk X G a__law_refused l__law_refused c__law_refused k__law_refused fun _ _ _ _ _ _ us hl => match us, hl with | [_, _], _ => rfl,
    d_law := def_mk X G a_law l_law c_law k_law fun _ _ _ _ _ _ us hl => match us, hl with | [_], _ => rfl,
    g_FIGURES := ⟨_, PySem.W.mg_of X G g_FIGURES⟩,
    g_LETTERS := ⟨_, PySem.W.mg_of X G g_LETTERS⟩,
    g_MOST_FIRINGS := ⟨_, PySem.W.mg_of X G g_MOST_FIRINGS⟩,
    g_MOST_LINES := ⟨_, PySem.W.mg_of X G g_MOST_LINES⟩,
    g_MOST_PHASES := ⟨_, PySem.W.mg_of X G g_MOST_PHASES⟩,
    g_MOST_STOCK := ⟨_, PySem.W.mg_of X G g_MOST_STOCK⟩,
    g_MOST_TASKS := ⟨_, PySem.W.mg_of X G g_MOST_TASKS⟩,
    b_all := PySem.W.mg_none_of X G b_all,
    b_bool := PySem.W.mg_none_of X G b_bool,
    b_divmod := PySem.W.mg_none_of X G b_divmod,
    b_int := PySem.W.mg_none_of X G b_int,
    b_isinstance := PySem.W.mg_none_of X G b_isinstance,
    b_len := PySem.W.mg_none_of X G b_len,
    b_list := PySem.W.mg_none_of X G b_list,
    b_max := PySem.W.mg_none_of X G b_max,
    b_min := PySem.W.mg_none_of X G b_min,
    b_range := PySem.W.mg_none_of X G b_range,
    b_repr := PySem.W.mg_none_of X G b_repr,
    b_set := PySem.W.mg_none_of X G b_set,
    b_str := PySem.W.mg_none_of X G b_str,
    b_sum := PySem.W.mg_none_of X G b_sum,
    b_tuple := PySem.W.mg_none_of X G b_tuple,
    r_BadGraph := ⟨C_BadGraph, fi_BadGraph, "place", "self", "place", _, rfl, G_BadGraph, ⟨⟨_, _, _, _, _, _, _, _, _, _, _, _, _, _, _, xl_BadGraph, bm_BadGraph'⟩, sa_BadGraph, ex_BadGraph, ty_BadGraph, ke_BadGraph⟩, in_BadGraph, ti_BadGraph, ini_BadGraph I_BadGraph (PySem.W.mg_of X G a_RateError) ⟨rd_RateError, ga_RateError⟩ ai_RateError, I_BadGraph.binds (ps := ["self", "place"]) fun _ _ _ _ _ _ us hl => match us, hl with | [_, _], _ => rfl, nf_BadGraph⟩,
    r_BadNumber := ⟨C_BadNumber, fi_BadNumber, "value", "self", "value", _, rfl, G_BadNumber, ⟨⟨_, _, _, _, _, _, _, _, _, _, _, _, _, _, _, xl_BadNumber, bm_BadNumber'⟩, sa_BadNumber, ex_BadNumber, ty_BadNumber, ke_BadNumber⟩, in_BadNumber, ti_BadNumber, ini_BadNumber I_BadNumber (PySem.W.mg_of X G a_RateError) ⟨rd_RateError, ga_RateError⟩ ai_RateError, I_BadNumber.binds (ps := ["self", "value"]) fun _ _ _ _ _ _ us hl => match us, hl with | [_, _], _ => rfl, nf_BadNumber⟩,
    t_BadNumber := ⟨C_BadNumber, rfl, G_BadNumber, ⟨xa_BadNumber, xg_BadNumber, ex_BadNumber, xd_BadNumber⟩, nf_BadNumber, fun c C f e => by
      unfold clOf at e
      by_cases e_BadGraph : c = "BadGraph"
      · rw [if_pos e_BadGraph] at e; cases e; rw [xm_BadNumber_BadGraph, e_BadGraph]; rfl
      rw [if_neg e_BadGraph] at e
      by_cases e_BadNumber : c = "BadNumber"
      · rw [if_pos e_BadNumber] at e; cases e; rw [xm_BadNumber_BadNumber, e_BadNumber]; rfl
      rw [if_neg e_BadNumber] at e
      cases e⟩ }
  refine fn_law z (fun a n m e => ?_) (PySem.W.mg_of X G a_gave) (PySem.W.mg_of X G a_took) (PySem.W.mg_of X G a_need) F
  unfold tbOf at e
  by_cases e_gave : a = f_gave
  · rw [if_pos e_gave] at e; cases e; rw [e_gave]; exact (ok_gave z).at_ (PySem.W.mg_of X G a_gave) (by decide)
  rw [if_neg e_gave] at e
  by_cases e_took : a = f_took
  · rw [if_pos e_took] at e; cases e; rw [e_took]; exact (ok_took z).at_ (PySem.W.mg_of X G a_took) (by decide)
  rw [if_neg e_took] at e
  by_cases e_need : a = f_need
  · rw [if_pos e_need] at e; cases e; rw [e_need]; exact (ok_need z).at_ (PySem.W.mg_of X G a_need) (by decide)
  rw [if_neg e_need] at e
  cases e
end
end Walk

set_option Elab.async false
set_option linter.all false
set_option maxRecDepth 100000
set_option maxHeartbeats 1000000
namespace Plain
open PySem PySem.Spec L2 ML Walk

/-! ### the draws -/
def srcO (c : List Int) (d s m : Int) : Ob := .dK [.inr "cells", .inr "digits", .inr "spot", .inr "mixed"] [.lst (c.map Dt.int), .int d, .int s, .int m]
/-- the n-th object is a source of draws -/
def Src (n : Nat) (S : Sto) : Prop := ∃ (c : List Int) (d s m : Int), S[n]? = some (srcO c d s m) ∧ c.length ≤ 63 ∧ 0 ≤ d ∧ 0 ≤ s ∧ s ≤ c.length ∧ 0 ≤ m
/-- all else of the store stays -/
structure Fr (n : Nat) (S S' : Sto) : Prop where
  len : S.length ≤ S'.length
  at_ : ∀ j, j < S.length → j ≠ n → S'[j]? = S[j]?
theorem Fr.refl (n : Nat) (S : Sto) : Fr n S S := ⟨Nat.le_refl _, fun _ _ _ => rfl⟩
theorem Fr.trans {n : Nat} {S S1 S2 : Sto} (a : Fr n S S1) (b : Fr n S1 S2) : Fr n S S2 := ⟨Nat.le_trans a.len b.len, fun j h hn => (b.at_ j (Nat.lt_of_lt_of_le h a.len) hn).trans (a.at_ j h hn)⟩
theorem Fr.set {n : Nat} {S : Sto} (o : Ob) : Fr n S (S.set n o) := ⟨by simp, fun j _ hn => List.getElem?_set_ne (Ne.symm hn)⟩
section
variable {n : Nat} {S : Sto} {c : List Int} {d s m v : Int}
theorem src_dict (h : S[n]? = some (srcO c d s m)) : (Dt.obj n).dict S = some ([.inr "cells", .inr "digits", .inr "spot", .inr "mixed"], [.lst (c.map Dt.int), .int d, .int s, .int m]) := by
  show (match S[n]? with | some (.dK ks xs) => some (ks, xs) | _ => none) = _
  rw [h]; rfl
theorem get_cells (h : S[n]? = some (srcO c d s m)) : gIx (.obj n) (.str "cells") S = some (.lst (c.map Dt.int)) := ix_dct (src_dict h) (fun _ z => nomatch z) rfl
theorem get_digits (h : S[n]? = some (srcO c d s m)) : gIx (.obj n) (.str "digits") S = some (.int d) := ix_dct (src_dict h) (fun _ z => nomatch z) rfl
theorem get_spot (h : S[n]? = some (srcO c d s m)) : gIx (.obj n) (.str "spot") S = some (.int s) := ix_dct (src_dict h) (fun _ z => nomatch z) rfl
theorem get_mixed (h : S[n]? = some (srcO c d s m)) : gIx (.obj n) (.str "mixed") S = some (.int m) := ix_dct (src_dict h) (fun _ z => nomatch z) rfl
theorem put_digits (h : S[n]? = some (srcO c d s m)) : putO (.obj n) (.str "digits") (.int v) S = some (S.set n (srcO c v s m)) := put_dic h (by show 4 < cap; decide)
theorem put_spot (h : S[n]? = some (srcO c d s m)) : putO (.obj n) (.str "spot") (.int v) S = some (S.set n (srcO c d v m)) := put_dic h (by show 4 < cap; decide)
theorem put_mixed (h : S[n]? = some (srcO c d s m)) : putO (.obj n) (.str "mixed") (.int v) S = some (S.set n (srcO c d s v)) := put_dic h (by show 4 < cap; decide)
theorem at_set {o : Ob} (h : n < S.length) : (S.set n o)[n]? = some o := List.getElem?_set_self h
theorem lt_of {o : Ob} (h : S[n]? = some o) : n < S.length := (List.getElem?_eq_some_iff.mp h).1
end
theorem pys_ints : ∀ ns : List Int, Dt.pys (ns.map Dt.int) = some (ns.map PyData.int)
  | [] => rfl
  | n :: r => by
    show (match Dt.py (.int n), Dt.pys (r.map Dt.int) with | some p, some ps => some (p :: ps) | _, _ => none) = _
    rw [pys_ints r]; rfl
theorem canLay_ints : ∀ ns : List Int, PyData.canLayAll0 (ns.map PyData.int) = true
  | [] => rfl
  | n :: r => by
    show (PyData.canLay0 (.int n) && PyData.canLayAll0 (r.map PyData.int)) = true
    rw [canLay_ints r]; rfl
theorem depth_ints : ∀ ns : List Int, PyData.depthAll (ns.map PyData.int) ≤ 1
  | [] => by decide
  | n :: r => by
    have := depth_ints r
    show max (PyData.depth (.int n)) (PyData.depthAll (r.map PyData.int)) ≤ 1
    have h : PyData.depth (.int n) ≤ 1 := Nat.zero_le _
    omega
theorem ne_nil {S : Sto} (c : List Int) : cNe (.lst (c.map Dt.int)) (.lst []) S = some (.bl (!decide (c = []))) := by
  show (eqv2 (.lst (c.map Dt.int)) (.lst [])).map (fun b => Dt.bl (!b)) = _
  have e : eqv2 (.lst (c.map Dt.int)) (.lst []) = some (PyData.eqv (.list (c.map PyData.int)) (.list [])) := by
    show (match (Dt.pys (c.map Dt.int)).map PyData.list, some (PyData.list []) with | some p, some q => if SeqAt.shaped p = true ∧ SeqAt.shaped q = true then some (PyData.eqv p q) else none | _, _ => none) = _
    rw [pys_ints]
    show (if SeqAt.shaped (.list (c.map PyData.int)) = true ∧ SeqAt.shaped (.list []) = true then some (PyData.eqv (.list (c.map PyData.int)) (.list [])) else none) = _
    rw [if_pos]
    refine ⟨?_, by decide⟩
    unfold SeqAt.shaped
    have h1 := depth_ints c
    have h2 : PyData.canLay0 (.list (c.map PyData.int)) = true := canLay_ints c
    have h3 : PyData.depth (.list (c.map PyData.int)) ≤ 64 := by
      show PyData.depthAll (c.map PyData.int) + 1 ≤ 64
      omega
    simp [h2, h3]
  rw [e]
  cases c with
  | nil => rfl
  | cons v r => rfl
/-- what a draw leaves -/
def Drawn (n : Nat) (S : Sto) (S' : Sto) : Prop := Src n S' ∧ Fr n S S'
theorem cut_eq (c : List Int) {s : Int} (h0 : 0 ≤ s) (h1 : s ≤ c.length) : cutL (c.map Dt.int) (some s) none = (c.drop s.toNat).map Dt.int := by
  unfold cutL
  have e1 : HT.sIx (c.map Dt.int).length 0 (some s) = s.toNat := by
    rw [show s = ((s.toNat : Nat) : Int) by omega, HT.sIx_nat]
    simp; omega
  rw [e1, HT.sIx_none, ← List.map_drop, ← List.map_take, List.take_of_length_le (by simp)]
theorem cut_len (c : List Int) {s : Int} (h0 : 0 ≤ s) (h1 : s ≤ c.length) : ((cutL (c.map Dt.int) (some s) none).length : Int) = c.length - s := by
  rw [cut_eq c h0 h1]
  simp
  omega
theorem pick_ev {n : Nat} {S : Sto} {many : Int} (h : Src n S) (h0 : 0 < many) (h1 : many < 2 ^ 62) : Ev NoE (m__law_pick [.obj n, .int many] S) fun r S' => ∃ v, r = .int v ∧ 0 ≤ v ∧ v < many ∧ Src n S' ∧ Fr n S S' := by
  obtain ⟨c, d, s, m, hS, hc, hd, hs, hs2, hm⟩ := h
  unfold m__law_pick
  simp only [ev_def, ev_Then]
  refine Ev.imp (Q := fun f S1 => ∃ (x2 x3 x4 x5 x6 : Option Dt) (d' s' : Int), f = .nx [some (.obj n), some (.int many), x2, x3, x4, x5, x6] ∧ S1[n]? = some (srcO c d' s' m) ∧ Fr n S S1 ∧ 0 ≤ d' ∧ 0 ≤ s' ∧ s' ≤ c.length) ?_ ?_
  · -- the search for a cell of digits
    simp only [ev_def, ev_Then, ev_Put, ev_Set, ev_Rt, ev_Drop, ev_If, ev_B, ev_Not, ev_And, ev_Or, ev_AndV, ev_OrV, ev_NotV, ev_Chain, ev_m1, ev_m2, ev_mn, ev_cons, ev_nil, ev_var, ev_c, ev_P, ev_noP, ev_Sl, ev_New, ev_RepO, ev_call, ev_App, ev_mErr, ev_sNx, ev_Asg, ev_Aug, ev_Par2, ev_Par3, ev_For, ev_Walk, ev_Lc, ev_Dc, ev_Yes, ev_Try1, ev_ret, ev_ok, ev_exc, ev_new, ev_nx, ev_bnd, ev_rd, at1_eq, at2_eq, at3_eq, aft_nx, aft_rt, aft_bk, aft_ct, out_rt, out_nx, trn_nx, trn_bk, trn_ct, trn_rt, tru_bl, asInt_int, add_int, addI_int, sub_int, ML.neg_int', ML.lt_int', ML.le_int', ML.gt_int', ML.ge_int', max_int, min_int, int_int, len_tup, len_lst, tpl_lst, tpl_tup, ML.sum_tup, sum_lst, all_lst, ix_row_tup, ix_row_lst, ML.eq_int, ML.ne_int, row_tup, row_lst, nv0, List.map_cons, List.map_nil, List.length_cons, List.length_nil, List.replicate_succ, List.replicate_zero, List.cons_append, List.nil_append, List.set_cons_zero, List.set_cons_succ, List.getElem?_cons_zero, List.getElem?_cons_succ, Option.join_some, Option.some.injEq, exists_eq_left', decide_eq_true_eq, Nat.zero_add, true_and, and_true, if_true, if_false, Bool.not_eq_true', Bool.false_eq_true, get_digits hS]
    by_cases hd0 : d = 0
    · rw [if_pos hd0]
      simp only [ev_def, ev_Then, ev_Put, ev_Set, ev_Rt, ev_Drop, ev_If, ev_B, ev_Not, ev_And, ev_Or, ev_AndV, ev_OrV, ev_NotV, ev_Chain, ev_m1, ev_m2, ev_mn, ev_cons, ev_nil, ev_var, ev_c, ev_P, ev_noP, ev_Sl, ev_New, ev_RepO, ev_call, ev_App, ev_mErr, ev_sNx, ev_Asg, ev_Aug, ev_Par2, ev_Par3, ev_For, ev_Walk, ev_Lc, ev_Dc, ev_Yes, ev_Try1, ev_ret, ev_ok, ev_exc, ev_new, ev_nx, ev_bnd, ev_rd, at1_eq, at2_eq, at3_eq, aft_nx, aft_rt, aft_bk, aft_ct, out_rt, out_nx, trn_nx, trn_bk, trn_ct, trn_rt, tru_bl, asInt_int, add_int, addI_int, sub_int, ML.neg_int', ML.lt_int', ML.le_int', ML.gt_int', ML.ge_int', max_int, min_int, int_int, len_tup, len_lst, tpl_lst, tpl_tup, ML.sum_tup, sum_lst, all_lst, ix_row_tup, ix_row_lst, ML.eq_int, ML.ne_int, row_tup, row_lst, nv0, List.map_cons, List.map_nil, List.length_cons, List.length_nil, List.replicate_succ, List.replicate_zero, List.cons_append, List.nil_append, List.set_cons_zero, List.set_cons_succ, List.getElem?_cons_zero, List.getElem?_cons_succ, Option.join_some, Option.some.injEq, exists_eq_left', decide_eq_true_eq, Nat.zero_add, true_and, and_true, if_true, if_false, Bool.not_eq_true', Bool.false_eq_true, get_cells hS, get_spot hS]
      refine ⟨_, rfl, _, rfl, ?_⟩
      subst hd0
      refine ev_forGo (I := fun items ρ S1 => ∃ (x2 : Option Dt) (s' : Int), ρ = [some (.obj n), some (.int many), x2, none, none, none, none] ∧ S1[n]? = some (srcO c 0 s' m) ∧ Fr n S S1 ∧ 0 ≤ s' ∧ s' + items.length ≤ c.length ∧ ∃ ns : List Int, items = ns.map Dt.int) ?_ ?_ _ _ _ ⟨none, s, rfl, hS, Fr.refl _ _, hs, ?_, c.drop s.toNat, ?_⟩
      · rintro cd r ρ S1 ⟨x2, s', rfl, hS1, fr, h2, h3, ns, hns⟩
        cases ns with
        | nil => cases hns
        | cons v ns =>
          cases hns
          refine ⟨trivial, _, rfl, ?_⟩
          have hl := lt_of hS1
          have hS2 : (S1.set n (srcO c 0 (s' + 1) m))[n]? = some (srcO c 0 (s' + 1) m) := at_set hl
          simp only [ev_def, ev_Then, ev_Put, ev_Set, ev_Rt, ev_Drop, ev_If, ev_B, ev_Not, ev_And, ev_Or, ev_AndV, ev_OrV, ev_NotV, ev_Chain, ev_m1, ev_m2, ev_mn, ev_cons, ev_nil, ev_var, ev_c, ev_P, ev_noP, ev_Sl, ev_New, ev_RepO, ev_call, ev_App, ev_mErr, ev_sNx, ev_Asg, ev_Aug, ev_Par2, ev_Par3, ev_For, ev_Walk, ev_Lc, ev_Dc, ev_Yes, ev_Try1, ev_ret, ev_ok, ev_exc, ev_new, ev_nx, ev_bnd, ev_rd, at1_eq, at2_eq, at3_eq, aft_nx, aft_rt, aft_bk, aft_ct, out_rt, out_nx, trn_nx, trn_bk, trn_ct, trn_rt, tru_bl, asInt_int, add_int, addI_int, sub_int, ML.neg_int', ML.lt_int', ML.le_int', ML.gt_int', ML.ge_int', max_int, min_int, int_int, len_tup, len_lst, tpl_lst, tpl_tup, ML.sum_tup, sum_lst, all_lst, ix_row_tup, ix_row_lst, ML.eq_int, ML.ne_int, row_tup, row_lst, nv0, List.map_cons, List.map_nil, List.length_cons, List.length_nil, List.replicate_succ, List.replicate_zero, List.cons_append, List.nil_append, List.set_cons_zero, List.set_cons_succ, List.getElem?_cons_zero, List.getElem?_cons_succ, Option.join_some, Option.some.injEq, exists_eq_left', decide_eq_true_eq, Nat.zero_add, true_and, and_true, if_true, if_false, Bool.not_eq_true', Bool.false_eq_true, get_spot hS1, put_spot hS1, pow_int (i := 10) (j := 16) (by decide) (by decide) (by decide)]
          simp only [List.length_cons] at h3
          by_cases hv : (10 : Int) ^ (16 : Int).toNat ≤ v
          · rw [if_pos hv]
            simp only [ev_def, ev_Then, ev_Put, ev_Set, ev_Rt, ev_Drop, ev_If, ev_B, ev_Not, ev_And, ev_Or, ev_AndV, ev_OrV, ev_NotV, ev_Chain, ev_m1, ev_m2, ev_mn, ev_cons, ev_nil, ev_var, ev_c, ev_P, ev_noP, ev_Sl, ev_New, ev_RepO, ev_call, ev_App, ev_mErr, ev_sNx, ev_Asg, ev_Aug, ev_Par2, ev_Par3, ev_For, ev_Walk, ev_Lc, ev_Dc, ev_Yes, ev_Try1, ev_ret, ev_ok, ev_exc, ev_new, ev_nx, ev_bnd, ev_rd, at1_eq, at2_eq, at3_eq, aft_nx, aft_rt, aft_bk, aft_ct, out_rt, out_nx, trn_nx, trn_bk, trn_ct, trn_rt, tru_bl, asInt_int, add_int, addI_int, sub_int, ML.neg_int', ML.lt_int', ML.le_int', ML.gt_int', ML.ge_int', max_int, min_int, int_int, len_tup, len_lst, tpl_lst, tpl_tup, ML.sum_tup, sum_lst, all_lst, ix_row_tup, ix_row_lst, ML.eq_int, ML.ne_int, row_tup, row_lst, nv0, List.map_cons, List.map_nil, List.length_cons, List.length_nil, List.replicate_succ, List.replicate_zero, List.cons_append, List.nil_append, List.set_cons_zero, List.set_cons_succ, List.getElem?_cons_zero, List.getElem?_cons_succ, Option.join_some, Option.some.injEq, exists_eq_left', decide_eq_true_eq, Nat.zero_add, true_and, and_true, if_true, if_false, Bool.not_eq_true', Bool.false_eq_true, put_digits hS2]
            refine ⟨some (.int v), none, none, none, none, v, s' + 1, rfl, at_set (by simpa using hl), (fr.trans (Fr.set _)).trans (Fr.set _), Int.le_trans (by decide) hv, by omega, by omega⟩
          · rw [if_neg hv]
            exact ⟨some (.int v), s' + 1, rfl, hS2, fr.trans (Fr.set _), by omega, by omega, ns, rfl⟩
      · rintro ρ S1 ⟨x2, s', rfl, hS1, fr, h2, h3, _⟩
        exact ⟨trivial, x2, none, none, none, none, 0, s', rfl, hS1, fr, Int.le_refl _, h2, by simpa using h3⟩
      · show s + ((cutL (c.map Dt.int) (some s) none).length : Int) ≤ c.length
        have := cut_len c hs hs2
        omega
      · exact cut_eq c hs hs2
    · rw [if_neg hd0]
      exact ⟨none, none, none, none, none, d, s, rfl, hS, Fr.refl _ _, hd, hs, hs2⟩
  · rintro f S1 ⟨x2, x3, x4, x5, x6, d', s', rfl, hS1, fr, hd', hs', hs2'⟩
    have hl := lt_of hS1
    simp only [ev_def, ev_Then, ev_Put, ev_Set, ev_Rt, ev_Drop, ev_If, ev_B, ev_Not, ev_And, ev_Or, ev_AndV, ev_OrV, ev_NotV, ev_Chain, ev_m1, ev_m2, ev_mn, ev_cons, ev_nil, ev_var, ev_c, ev_P, ev_noP, ev_Sl, ev_New, ev_RepO, ev_call, ev_App, ev_mErr, ev_sNx, ev_Asg, ev_Aug, ev_Par2, ev_Par3, ev_For, ev_Walk, ev_Lc, ev_Dc, ev_Yes, ev_Try1, ev_ret, ev_ok, ev_exc, ev_new, ev_nx, ev_bnd, ev_rd, at1_eq, at2_eq, at3_eq, aft_nx, aft_rt, aft_bk, aft_ct, out_rt, out_nx, trn_nx, trn_bk, trn_ct, trn_rt, tru_bl, asInt_int, add_int, addI_int, sub_int, ML.neg_int', ML.lt_int', ML.le_int', ML.gt_int', ML.ge_int', max_int, min_int, int_int, len_tup, len_lst, tpl_lst, tpl_tup, ML.sum_tup, sum_lst, all_lst, ix_row_tup, ix_row_lst, ML.eq_int, ML.ne_int, row_tup, row_lst, nv0, List.map_cons, List.map_nil, List.length_cons, List.length_nil, List.replicate_succ, List.replicate_zero, List.cons_append, List.nil_append, List.set_cons_zero, List.set_cons_succ, List.getElem?_cons_zero, List.getElem?_cons_succ, Option.join_some, Option.some.injEq, exists_eq_left', decide_eq_true_eq, Nat.zero_add, true_and, and_true, if_true, if_false, Bool.not_eq_true', Bool.false_eq_true, get_digits hS1]
    by_cases hd0 : 0 < d'
    · rw [if_pos hd0]
      simp only [ev_def, ev_Then, ev_Put, ev_Set, ev_Rt, ev_Drop, ev_If, ev_B, ev_Not, ev_And, ev_Or, ev_AndV, ev_OrV, ev_NotV, ev_Chain, ev_m1, ev_m2, ev_mn, ev_cons, ev_nil, ev_var, ev_c, ev_P, ev_noP, ev_Sl, ev_New, ev_RepO, ev_call, ev_App, ev_mErr, ev_sNx, ev_Asg, ev_Aug, ev_Par2, ev_Par3, ev_For, ev_Walk, ev_Lc, ev_Dc, ev_Yes, ev_Try1, ev_ret, ev_ok, ev_exc, ev_new, ev_nx, ev_bnd, ev_rd, at1_eq, at2_eq, at3_eq, aft_nx, aft_rt, aft_bk, aft_ct, out_rt, out_nx, trn_nx, trn_bk, trn_ct, trn_rt, tru_bl, asInt_int, add_int, addI_int, sub_int, ML.neg_int', ML.lt_int', ML.le_int', ML.gt_int', ML.ge_int', max_int, min_int, int_int, len_tup, len_lst, tpl_lst, tpl_tup, ML.sum_tup, sum_lst, all_lst, ix_row_tup, ix_row_lst, ML.eq_int, ML.ne_int, row_tup, row_lst, nv0, List.map_cons, List.map_nil, List.length_cons, List.length_nil, List.replicate_succ, List.replicate_zero, List.cons_append, List.nil_append, List.set_cons_zero, List.set_cons_succ, List.getElem?_cons_zero, List.getElem?_cons_succ, Option.join_some, Option.some.injEq, exists_eq_left', decide_eq_true_eq, Nat.zero_add, true_and, and_true, if_true, if_false, Bool.not_eq_true', Bool.false_eq_true, get_digits hS1, div_int h0 (by omega : many < 2 ^ 63), mod_int h0, put_digits hS1]
      exact ⟨d' % many, rfl, Int.emod_nonneg _ (by omega), Int.emod_lt_of_pos _ h0, ⟨c, _, s', m, at_set hl, hc, Int.ediv_nonneg hd' (by omega), hs', hs2', hm⟩, fr.trans (Fr.set _)⟩
    · rw [if_neg hd0]
      have hS2 : (S1.set n (srcO c d' s' (m + 1)))[n]? = some (srcO c d' s' (m + 1)) := at_set hl
      simp only [ev_def, ev_Then, ev_Put, ev_Set, ev_Rt, ev_Drop, ev_If, ev_B, ev_Not, ev_And, ev_Or, ev_AndV, ev_OrV, ev_NotV, ev_Chain, ev_m1, ev_m2, ev_mn, ev_cons, ev_nil, ev_var, ev_c, ev_P, ev_noP, ev_Sl, ev_New, ev_RepO, ev_call, ev_App, ev_mErr, ev_sNx, ev_Asg, ev_Aug, ev_Par2, ev_Par3, ev_For, ev_Walk, ev_Lc, ev_Dc, ev_Yes, ev_Try1, ev_ret, ev_ok, ev_exc, ev_new, ev_nx, ev_bnd, ev_rd, at1_eq, at2_eq, at3_eq, aft_nx, aft_rt, aft_bk, aft_ct, out_rt, out_nx, trn_nx, trn_bk, trn_ct, trn_rt, tru_bl, asInt_int, add_int, addI_int, sub_int, ML.neg_int', ML.lt_int', ML.le_int', ML.gt_int', ML.ge_int', max_int, min_int, int_int, len_tup, len_lst, tpl_lst, tpl_tup, ML.sum_tup, sum_lst, all_lst, ix_row_tup, ix_row_lst, ML.eq_int, ML.ne_int, row_tup, row_lst, nv0, List.map_cons, List.map_nil, List.length_cons, List.length_nil, List.replicate_succ, List.replicate_zero, List.cons_append, List.nil_append, List.set_cons_zero, List.set_cons_succ, List.getElem?_cons_zero, List.getElem?_cons_succ, Option.join_some, Option.some.injEq, exists_eq_left', decide_eq_true_eq, Nat.zero_add, true_and, and_true, if_true, if_false, Bool.not_eq_true', Bool.false_eq_true, get_mixed hS1, get_cells hS1, put_mixed hS1]
      have k1 : ∀ S, bMul (.int 5) (.int m) S = some (.int (5 * m)) := fun _ => mul_intL (by decide) (by decide)
      have k2 : ∀ S (v w : Int), bMul (.int (v % 1999999973)) (.int w) S = some (.int (v % 1999999973 * w)) := fun _ v w => mul_intL (by omega) (by omega)
      have k3 : ∀ S, bMul (.int 15485863) (.int m) S = some (.int (15485863 * m)) := fun _ => mul_intL (by decide) (by decide)
      have k4 : ∀ S (v w : Int), bMul (.int (v % 2147483629)) (.int w) S = some (.int (v % 2147483629 * w)) := fun _ v w => mul_intL (by omega) (by omega)
      have k5 : ∀ S (v w : Int), bMul (.int (v % 2147483587)) (.int w) S = some (.int (v % 2147483587 * w)) := fun _ v w => mul_intL (by omega) (by omega)
      have l1 : ∀ S, fLst [] S = some (.lst []) := fun _ => lst_new (by decide)
      have fin : ∀ x : Int, ∃ v, Dt.int (x % many) = .int v ∧ 0 ≤ v ∧ v < many ∧ Src n (S1.set n (srcO c d' s' (m + 1))) ∧ Fr n S (S1.set n (srcO c d' s' (m + 1))) := fun x =>
        ⟨x % many, rfl, Int.emod_nonneg _ (by omega), Int.emod_lt_of_pos _ h0, ⟨c, d', s', m + 1, hS2, hc, hd', hs', hs2', by omega⟩, fr.trans (Fr.set _)⟩
      simp only [ev_def, ev_Then, ev_Put, ev_Set, ev_Rt, ev_Drop, ev_If, ev_B, ev_Not, ev_And, ev_Or, ev_AndV, ev_OrV, ev_NotV, ev_Chain, ev_m1, ev_m2, ev_mn, ev_cons, ev_nil, ev_var, ev_c, ev_P, ev_noP, ev_Sl, ev_New, ev_RepO, ev_call, ev_App, ev_mErr, ev_sNx, ev_Asg, ev_Aug, ev_Par2, ev_Par3, ev_For, ev_Walk, ev_Lc, ev_Dc, ev_Yes, ev_Try1, ev_ret, ev_ok, ev_exc, ev_new, ev_nx, ev_bnd, ev_rd, at1_eq, at2_eq, at3_eq, aft_nx, aft_rt, aft_bk, aft_ct, out_rt, out_nx, trn_nx, trn_bk, trn_ct, trn_rt, tru_bl, asInt_int, add_int, addI_int, sub_int, ML.neg_int', ML.lt_int', ML.le_int', ML.gt_int', ML.ge_int', max_int, min_int, int_int, len_tup, len_lst, tpl_lst, tpl_tup, ML.sum_tup, sum_lst, all_lst, ix_row_tup, ix_row_lst, ML.eq_int, ML.ne_int, row_tup, row_lst, nv0, List.map_cons, List.map_nil, List.length_cons, List.length_nil, List.replicate_succ, List.replicate_zero, List.cons_append, List.nil_append, List.set_cons_zero, List.set_cons_succ, List.getElem?_cons_zero, List.getElem?_cons_succ, Option.join_some, Option.some.injEq, exists_eq_left', decide_eq_true_eq, Nat.zero_add, true_and, and_true, if_true, if_false, Bool.not_eq_true', Bool.false_eq_true, l1, ne_nil]
      by_cases hn : c = []
      · rw [if_neg (by simp [hn])]
        simp only [ev_def, ev_Then, ev_Put, ev_Set, ev_Rt, ev_Drop, ev_If, ev_B, ev_Not, ev_And, ev_Or, ev_AndV, ev_OrV, ev_NotV, ev_Chain, ev_m1, ev_m2, ev_mn, ev_cons, ev_nil, ev_var, ev_c, ev_P, ev_noP, ev_Sl, ev_New, ev_RepO, ev_call, ev_App, ev_mErr, ev_sNx, ev_Asg, ev_Aug, ev_Par2, ev_Par3, ev_For, ev_Walk, ev_Lc, ev_Dc, ev_Yes, ev_Try1, ev_ret, ev_ok, ev_exc, ev_new, ev_nx, ev_bnd, ev_rd, at1_eq, at2_eq, at3_eq, aft_nx, aft_rt, aft_bk, aft_ct, out_rt, out_nx, trn_nx, trn_bk, trn_ct, trn_rt, tru_bl, asInt_int, add_int, addI_int, sub_int, ML.neg_int', ML.lt_int', ML.le_int', ML.gt_int', ML.ge_int', max_int, min_int, int_int, len_tup, len_lst, tpl_lst, tpl_tup, ML.sum_tup, sum_lst, all_lst, ix_row_tup, ix_row_lst, ML.eq_int, ML.ne_int, row_tup, row_lst, nv0, List.map_cons, List.map_nil, List.length_cons, List.length_nil, List.replicate_succ, List.replicate_zero, List.cons_append, List.nil_append, List.set_cons_zero, List.set_cons_succ, List.getElem?_cons_zero, List.getElem?_cons_succ, Option.join_some, Option.some.injEq, exists_eq_left', decide_eq_true_eq, Nat.zero_add, true_and, and_true, if_true, if_false, Bool.not_eq_true', Bool.false_eq_true, k1, k2, k3, k4, k5, mod_int (j := 1999999973) (by decide), mod_int (j := 2147483629) (by decide), mod_int (j := 2147483587) (by decide), mod_int (j := 2147483647) (by decide), div_int (j := 17) (by decide) (by decide), mod_int h0]
        exact fin _
      · rw [if_pos (by simp [hn])]
        have hl : 0 < c.length := List.length_pos_iff.mpr hn
        have hix : ∀ S, ∃ v, gIx (.lst (c.map Dt.int)) (.int (m % c.length)) S = some (.int v) := fun S => by
          have hi := Int.emod_nonneg m (show (c.length : Int) ≠ 0 by omega)
          have hi2 := Int.emod_lt_of_pos m (show (0 : Int) < c.length by omega)
          refine ⟨c[(m % c.length).toNat]'(by omega), ?_⟩
          rw [ix_row_lst, atI_pos hi (by simpa using hi2), List.getElem_map]
        obtain ⟨v, hv⟩ := hix (S1.set n (srcO c d' s' (m + 1)))
        simp only [List.length_map, mod_int (i := m) (j := (c.length : Int)) (by omega), hv, ev_def, ev_Then, ev_Put, ev_Set, ev_Rt, ev_Drop, ev_If, ev_B, ev_Not, ev_And, ev_Or, ev_AndV, ev_OrV, ev_NotV, ev_Chain, ev_m1, ev_m2, ev_mn, ev_cons, ev_nil, ev_var, ev_c, ev_P, ev_noP, ev_Sl, ev_New, ev_RepO, ev_call, ev_App, ev_mErr, ev_sNx, ev_Asg, ev_Aug, ev_Par2, ev_Par3, ev_For, ev_Walk, ev_Lc, ev_Dc, ev_Yes, ev_Try1, ev_ret, ev_ok, ev_exc, ev_new, ev_nx, ev_bnd, ev_rd, at1_eq, at2_eq, at3_eq, aft_nx, aft_rt, aft_bk, aft_ct, out_rt, out_nx, trn_nx, trn_bk, trn_ct, trn_rt, tru_bl, asInt_int, add_int, addI_int, sub_int, ML.neg_int', ML.lt_int', ML.le_int', ML.gt_int', ML.ge_int', max_int, min_int, int_int, len_tup, len_lst, tpl_lst, tpl_tup, ML.sum_tup, sum_lst, all_lst, ix_row_tup, ix_row_lst, ML.eq_int, ML.ne_int, row_tup, row_lst, nv0, List.map_cons, List.map_nil, List.length_cons, List.length_nil, List.replicate_succ, List.replicate_zero, List.cons_append, List.nil_append, List.set_cons_zero, List.set_cons_succ, List.getElem?_cons_zero, List.getElem?_cons_succ, Option.join_some, Option.some.injEq, exists_eq_left', decide_eq_true_eq, Nat.zero_add, true_and, and_true, if_true, if_false, Bool.not_eq_true', Bool.false_eq_true]
        simp only [hv, ev_def, ev_Then, ev_Put, ev_Set, ev_Rt, ev_Drop, ev_If, ev_B, ev_Not, ev_And, ev_Or, ev_AndV, ev_OrV, ev_NotV, ev_Chain, ev_m1, ev_m2, ev_mn, ev_cons, ev_nil, ev_var, ev_c, ev_P, ev_noP, ev_Sl, ev_New, ev_RepO, ev_call, ev_App, ev_mErr, ev_sNx, ev_Asg, ev_Aug, ev_Par2, ev_Par3, ev_For, ev_Walk, ev_Lc, ev_Dc, ev_Yes, ev_Try1, ev_ret, ev_ok, ev_exc, ev_new, ev_nx, ev_bnd, ev_rd, at1_eq, at2_eq, at3_eq, aft_nx, aft_rt, aft_bk, aft_ct, out_rt, out_nx, trn_nx, trn_bk, trn_ct, trn_rt, tru_bl, asInt_int, add_int, addI_int, sub_int, ML.neg_int', ML.lt_int', ML.le_int', ML.gt_int', ML.ge_int', max_int, min_int, int_int, len_tup, len_lst, tpl_lst, tpl_tup, ML.sum_tup, sum_lst, all_lst, ix_row_tup, ix_row_lst, ML.eq_int, ML.ne_int, row_tup, row_lst, nv0, List.map_cons, List.map_nil, List.length_cons, List.length_nil, List.replicate_succ, List.replicate_zero, List.cons_append, List.nil_append, List.set_cons_zero, List.set_cons_succ, List.getElem?_cons_zero, List.getElem?_cons_succ, Option.join_some, Option.some.injEq, exists_eq_left', decide_eq_true_eq, Nat.zero_add, true_and, and_true, if_true, if_false, Bool.not_eq_true', Bool.false_eq_true, k1, k2, k3, k4, k5, mod_int (j := 1999999973) (by decide), mod_int (j := 2147483629) (by decide), mod_int (j := 2147483587) (by decide), mod_int (j := 2147483647) (by decide), div_int (j := 17) (by decide) (by decide), mod_int h0]
        exact fin _
end Plain

set_option Elab.async false
set_option linter.all false
set_option maxRecDepth 100000
set_option maxHeartbeats 1000000
namespace Plain
open PySem PySem.Spec L2 ML Walk

theorem ev_eq {α : Type} {r : Rs α} {x : α} {S : Sto} (h : Ev NoE r fun a S' => a = x ∧ S' = S) : r = .ok x S := by
  obtain ⟨a, S', e, rfl, rfl⟩ := h.of
  exact e
theorem eq_ev {α : Type} {r : Rs α} {x : α} {S : Sto} {X : Str → Dt → Sto → Prop} {Q : α → Sto → Prop} (h : r = .ok x S) : Ev X r Q ↔ Q x S := by rw [h]; rfl
theorem one_ev {n : Nat} {S : Sto} {xs : List Dt} (h : Src n S) (hx : xs ≠ []) (hl : xs.length ≤ 1000) : Ev NoE (m__law_one [.obj n, .lst xs] S) fun r S' => r ∈ xs ∧ Src n S' ∧ Fr n S S' := by
  have h0 : 0 < xs.length := List.length_pos_iff.mpr hx
  unfold m__law_one
  simp only [ev_def, ev_Then, ev_Put, ev_Set, ev_Rt, ev_Drop, ev_If, ev_B, ev_Not, ev_And, ev_Or, ev_AndV, ev_OrV, ev_NotV, ev_Chain, ev_m1, ev_m2, ev_mn, ev_cons, ev_nil, ev_var, ev_c, ev_P, ev_noP, ev_Sl, ev_New, ev_RepO, ev_call, ev_App, ev_mErr, ev_sNx, ev_Asg, ev_Aug, ev_Par2, ev_Par3, ev_For, ev_Walk, ev_Lc, ev_Dc, ev_Yes, ev_Try1, ev_ret, ev_ok, ev_exc, ev_new, ev_nx, ev_bnd, ev_rd, at1_eq, at2_eq, at3_eq, aft_nx, aft_rt, aft_bk, aft_ct, out_rt, out_nx, trn_nx, trn_bk, trn_ct, trn_rt, tru_bl, asInt_int, add_int, addI_int, sub_int, ML.neg_int', ML.lt_int', ML.le_int', ML.gt_int', ML.ge_int', max_int, min_int, int_int, len_tup, len_lst, tpl_lst, tpl_tup, ML.sum_tup, sum_lst, all_lst, ix_row_tup, ix_row_lst, ML.eq_int, ML.ne_int, row_tup, row_lst, nv0, List.map_cons, List.map_nil, List.length_cons, List.length_nil, List.replicate_succ, List.replicate_zero, List.cons_append, List.nil_append, List.set_cons_zero, List.set_cons_succ, List.getElem?_cons_zero, List.getElem?_cons_succ, Option.join_some, Option.some.injEq, exists_eq_left', decide_eq_true_eq, Nat.zero_add, true_and, and_true, if_true, if_false, Bool.not_eq_true', Bool.false_eq_true]
  refine (pick_ev h (many := xs.length) (by omega) (by omega)).imp ?_
  rintro r S' ⟨v, rfl, h1, h2, h3, h4⟩
  exact ⟨_, ix_row_lst.trans (atI_pos h1 h2), List.getElem_mem _, h3, h4⟩
theorem oneT_ev {n : Nat} {S : Sto} {xs : List Dt} (h : Src n S) (hx : xs ≠ []) (hl : xs.length ≤ 1000) : Ev NoE (m__law_one [.obj n, .tup xs] S) fun r S' => r ∈ xs ∧ Src n S' ∧ Fr n S S' := by
  have h0 : 0 < xs.length := List.length_pos_iff.mpr hx
  unfold m__law_one
  simp only [ev_def, ev_Then, ev_Put, ev_Set, ev_Rt, ev_Drop, ev_If, ev_B, ev_Not, ev_And, ev_Or, ev_AndV, ev_OrV, ev_NotV, ev_Chain, ev_m1, ev_m2, ev_mn, ev_cons, ev_nil, ev_var, ev_c, ev_P, ev_noP, ev_Sl, ev_New, ev_RepO, ev_call, ev_App, ev_mErr, ev_sNx, ev_Asg, ev_Aug, ev_Par2, ev_Par3, ev_For, ev_Walk, ev_Lc, ev_Dc, ev_Yes, ev_Try1, ev_ret, ev_ok, ev_exc, ev_new, ev_nx, ev_bnd, ev_rd, at1_eq, at2_eq, at3_eq, aft_nx, aft_rt, aft_bk, aft_ct, out_rt, out_nx, trn_nx, trn_bk, trn_ct, trn_rt, tru_bl, asInt_int, add_int, addI_int, sub_int, ML.neg_int', ML.lt_int', ML.le_int', ML.gt_int', ML.ge_int', max_int, min_int, int_int, len_tup, len_lst, tpl_lst, tpl_tup, ML.sum_tup, sum_lst, all_lst, ix_row_tup, ix_row_lst, ML.eq_int, ML.ne_int, row_tup, row_lst, nv0, List.map_cons, List.map_nil, List.length_cons, List.length_nil, List.replicate_succ, List.replicate_zero, List.cons_append, List.nil_append, List.set_cons_zero, List.set_cons_succ, List.getElem?_cons_zero, List.getElem?_cons_succ, Option.join_some, Option.some.injEq, exists_eq_left', decide_eq_true_eq, Nat.zero_add, true_and, and_true, if_true, if_false, Bool.not_eq_true', Bool.false_eq_true]
  refine (pick_ev h (many := xs.length) (by omega) (by omega)).imp ?_
  rintro r S' ⟨v, rfl, h1, h2, h3, h4⟩
  exact ⟨_, ix_row_tup.trans (atI_pos h1 h2), List.getElem_mem _, h3, h4⟩
theorem source_ev {ns : List Int} (h : ns.length ≤ 63) : Ev NoE (m__law_source [.scr ns] []) fun r S' => r = .obj 0 ∧ S' = [srcO ns 0 0 0] := by
  unfold m__law_source mDisp mKv mKv mKv mKv mKv
  have e1 : fLs [.scr ns] [] = some (.lst (ns.map Dt.int)) := rfl
  simp only [ev_def, ev_Then, ev_Put, ev_Set, ev_Rt, ev_Drop, ev_If, ev_B, ev_Not, ev_And, ev_Or, ev_AndV, ev_OrV, ev_NotV, ev_Chain, ev_m1, ev_m2, ev_mn, ev_cons, ev_nil, ev_var, ev_c, ev_P, ev_noP, ev_Sl, ev_New, ev_RepO, ev_call, ev_App, ev_mErr, ev_sNx, ev_Asg, ev_Aug, ev_Par2, ev_Par3, ev_For, ev_Walk, ev_Lc, ev_Dc, ev_Yes, ev_Try1, ev_ret, ev_ok, ev_exc, ev_new, ev_nx, ev_bnd, ev_rd, at1_eq, at2_eq, at3_eq, aft_nx, aft_rt, aft_bk, aft_ct, out_rt, out_nx, trn_nx, trn_bk, trn_ct, trn_rt, tru_bl, asInt_int, add_int, addI_int, sub_int, ML.neg_int', ML.lt_int', ML.le_int', ML.gt_int', ML.ge_int', max_int, min_int, int_int, len_tup, len_lst, tpl_lst, tpl_tup, ML.sum_tup, sum_lst, all_lst, ix_row_tup, ix_row_lst, ML.eq_int, ML.ne_int, row_tup, row_lst, nv0, List.map_cons, List.map_nil, List.length_cons, List.length_nil, List.replicate_succ, List.replicate_zero, List.cons_append, List.nil_append, List.set_cons_zero, List.set_cons_succ, List.getElem?_cons_zero, List.getElem?_cons_succ, Option.join_some, Option.some.injEq, exists_eq_left', decide_eq_true_eq, Nat.zero_add, true_and, and_true, if_true, if_false, Bool.not_eq_true', Bool.false_eq_true, e1]
  exact ⟨_, rfl, _, rfl, _, rfl, _, rfl, srcO ns 0 0 0, rfl, rfl⟩
theorem src_start {ns : List Int} (h : ns.length ≤ 63) : Src 0 [srcO ns 0 0 0] := ⟨ns, 0, 0, 0, rfl, h, Int.le_refl _, Int.le_refl _, by omega, Int.le_refl _⟩

/-! ### _law_same of equals -/
structure Shw (p : PyData) : Prop where
  sh : SeqAt.shaped p = true
  eq : PyData.eqv p p = true
  sw : p.showable = true
  nd : p.hasDict = false
  dp : p.depth ≤ 20
  ln : p.shown.length ≤ cap
  ok : PyData.canLay0 (.str p.shown) = true
theorem ofString_ok (s : String) : PyData.canLay0 (.str (Str.ofString s)) = true := by
  show (Str.ofString s).cps.all (· < 0x110000) = true
  rw [Str.ofString_eq_toList]
  simp only [List.all_toArray, List.all_eq_true, List.mem_map, decide_eq_true_eq]
  rintro x ⟨c, _, rfl⟩
  have h := c.valid
  have e : c.toNat = c.val.toNat := rfl
  rcases h with h | ⟨_, h⟩
  · exact Nat.lt_trans h (by decide)
  · exact h
theorem shw_int {i : Int} (h : i.natAbs < 2 ^ 200) : Shw (.int i) := by
  have hl : i.natAbs.log2 < 1920 := by
    by_cases h0 : i.natAbs = 0
    · rw [h0]; decide
    · exact Nat.lt_trans ((Nat.log2_lt h0).mpr h) (by decide)
  refine ⟨rfl, ?_, decide_eq_true hl, rfl, Nat.zero_le _, ?_, ofString_ok _⟩
  · show (i == i) = true
    exact beq_self_eq_true i
  · exact Nat.le_trans (PyProof.Rows.int_text_len_1921 hl) (by decide)
theorem same_eq {d : Dt} {p : PyData} {S : Sto} (hp : d.py = some p) (h : Shw p) : m__law_same [d, d] S = .ok (.bl true) S := by
  refine ev_eq ?_
  have e1 : cEq d d S = some (.bl true) := by
    show (eqv2 d d).map Dt.bl = _
    unfold eqv2
    rw [hp]
    show (if SeqAt.shaped p = true ∧ SeqAt.shaped p = true then some (PyData.eqv p p) else none).map Dt.bl = _
    rw [if_pos ⟨h.sh, h.sh⟩, h.eq]; rfl
  have e2 : fRep [d] S = some (.str p.shown) := by
    show (match d.py with | some p => if p.showable = true ∧ p.hasDict = false ∧ p.depth ≤ 20 ∧ p.shown.length ≤ cap then some (Dt.str p.shown) else none | none => none) = _
    rw [hp]
    exact if_pos ⟨h.sw, h.nd, h.dp, h.ln⟩
  have e3 : cEq (.str p.shown) (.str p.shown) S = some (.bl true) := by
    show (eqv2 (.str p.shown) (.str p.shown)).map Dt.bl = _
    have s : SeqAt.shaped (.str p.shown) = true := by
      unfold SeqAt.shaped
      rw [h.ok]; rfl
    show (if SeqAt.shaped (.str p.shown) = true ∧ SeqAt.shaped (.str p.shown) = true then some (PyData.eqv (.str p.shown) (.str p.shown)) else none).map Dt.bl = _
    rw [if_pos ⟨s, s⟩]
    show some (Dt.bl (p.shown == p.shown)) = _
    rw [beq_self_eq_true]
  unfold m__law_same
  simp only [ev_def, ev_Then, ev_Put, ev_Set, ev_Rt, ev_Drop, ev_If, ev_B, ev_Not, ev_And, ev_Or, ev_AndV, ev_OrV, ev_NotV, ev_Chain, ev_m1, ev_m2, ev_mn, ev_cons, ev_nil, ev_var, ev_c, ev_P, ev_noP, ev_Sl, ev_New, ev_RepO, ev_call, ev_App, ev_mErr, ev_sNx, ev_Asg, ev_Aug, ev_Par2, ev_Par3, ev_For, ev_Walk, ev_Lc, ev_Dc, ev_Yes, ev_Try1, ev_ret, ev_ok, ev_exc, ev_new, ev_nx, ev_bnd, ev_rd, at1_eq, at2_eq, at3_eq, aft_nx, aft_rt, aft_bk, aft_ct, out_rt, out_nx, trn_nx, trn_bk, trn_ct, trn_rt, tru_bl, asInt_int, add_int, addI_int, sub_int, ML.neg_int', ML.lt_int', ML.le_int', ML.gt_int', ML.ge_int', max_int, min_int, int_int, len_tup, len_lst, tpl_lst, tpl_tup, ML.sum_tup, sum_lst, all_lst, ix_row_tup, ix_row_lst, ML.eq_int, ML.ne_int, row_tup, row_lst, nv0, List.map_cons, List.map_nil, List.length_cons, List.length_nil, List.replicate_succ, List.replicate_zero, List.cons_append, List.nil_append, List.set_cons_zero, List.set_cons_succ, List.getElem?_cons_zero, List.getElem?_cons_succ, Option.join_some, Option.some.injEq, exists_eq_left', decide_eq_true_eq, Nat.zero_add, true_and, and_true, if_true, if_false, Bool.not_eq_true', Bool.false_eq_true, e1, e2, e3]
theorem same_int {i : Int} {S : Sto} (h : i.natAbs < 2 ^ 200) : m__law_same [.int i, .int i] S = .ok (.bl true) S := same_eq rfl (shw_int h)
end Plain

set_option Elab.async false
set_option linter.all false
set_option maxRecDepth 100000
set_option maxHeartbeats 1000000
namespace Plain
open PySem PySem.Spec L2 ML Walk

/-! ### what a row of numbers gives in k firings; the least k that gives so much -/
def pre (g : List Int) (k : Int) : Int := k / g.length * g.sum + (g.take (k % g.length).toNat).sum
def cn : List Int → Int → Int
  | [], _ => 0
  | x :: xs, r => if r ≤ 0 then 0 else 1 + cn xs (r - x)
def far (g : List Int) (T : Int) : Int := (T - 1) / g.sum * g.length + cn g (T - (T - 1) / g.sum * g.sum)
/-- a row of a line -/
structure Row (g : List Int) : Prop where
  one : 0 < g.length
  few : g.length ≤ 24
  ge : ∀ x ∈ g, 0 ≤ x
  le : ∀ x ∈ g, x ≤ 9
  pos : 0 < g.sum
theorem sum_nn : ∀ {g : List Int}, (∀ x ∈ g, 0 ≤ x) → 0 ≤ g.sum
  | [], _ => by simp
  | x :: g, h => by
    have h1 := h x List.mem_cons_self
    have h2 := sum_nn (g := g) fun y hy => h y (List.mem_cons_of_mem _ hy)
    rw [List.sum_cons]; omega
theorem sum_le9 : ∀ {g : List Int}, (∀ x ∈ g, x ≤ 9) → g.sum ≤ 9 * g.length
  | [], _ => by simp
  | x :: g, h => by
    have h1 := h x List.mem_cons_self
    have h2 := sum_le9 (g := g) fun y hy => h y (List.mem_cons_of_mem _ hy)
    rw [List.sum_cons, List.length_cons]; omega
theorem Row.sum_le {g : List Int} (r : Row g) : g.sum ≤ 216 := by
  have := sum_le9 r.le
  have := r.few
  omega
theorem take_nn {g : List Int} (h : ∀ x ∈ g, 0 ≤ x) (n : Nat) : 0 ≤ (g.take n).sum := sum_nn fun x hx => h x (List.mem_of_mem_take hx)
theorem take_le {g : List Int} (h : ∀ x ∈ g, 0 ≤ x) : ∀ n, (g.take n).sum ≤ g.sum := by
  intro n
  have e : (g.take n).sum + (g.drop n).sum = g.sum := by rw [← List.sum_append, List.take_append_drop]
  have := sum_nn (g := g.drop n) fun x hx => h x (List.mem_of_mem_drop hx)
  omega
theorem take_up {g : List Int} (h : ∀ x ∈ g, 0 ≤ x) (n : Nat) : (g.take n).sum ≤ (g.take (n + 1)).sum := by
  rw [List.take_succ, List.sum_append]
  cases q : g[n]? with
  | none => simp
  | some x =>
    have := h x (List.mem_of_getElem? q)
    simp; omega
theorem cn_le0 {g : List Int} {r : Int} (h : r ≤ 0) : cn g r = 0 := by
  cases g with
  | nil => rfl
  | cons x g => unfold cn; rw [if_pos h]
theorem cn_spec : ∀ {g : List Int} {r : Int}, (∀ x ∈ g, 0 ≤ x) → 0 < r → r ≤ g.sum → 1 ≤ cn g r ∧ cn g r ≤ g.length ∧ r ≤ (g.take (cn g r).toNat).sum ∧ (g.take (cn g r - 1).toNat).sum < r
  | [], r, _, h0, h1 => by simp at h1; omega
  | x :: g, r, h, h0, h1 => by
    have hx := h x List.mem_cons_self
    have hg : ∀ y ∈ g, 0 ≤ y := fun y hy => h y (List.mem_cons_of_mem _ hy)
    unfold cn
    rw [if_neg (by omega)]
    by_cases q : r - x ≤ 0
    · rw [cn_le0 q]
      refine ⟨by omega, by rw [List.length_cons]; omega, ?_, ?_⟩
      · show r ≤ ((x :: g).take 1).sum
        simp; omega
      · show ((x :: g).take 0).sum < r
        simp; omega
    · rw [List.sum_cons] at h1
      obtain ⟨a1, a2, a3, a4⟩ := cn_spec hg (r := r - x) (by omega) (by omega)
      refine ⟨by omega, by rw [List.length_cons]; omega, ?_, ?_⟩
      · rw [show (1 + cn g (r - x)).toNat = (cn g (r - x)).toNat + 1 by omega, List.take_succ_cons, List.sum_cons]
        omega
      · rw [show (1 + cn g (r - x) - 1).toNat = (cn g (r - x) - 1).toNat + 1 by omega, List.take_succ_cons, List.sum_cons]
        omega
theorem pre_at {g : List Int} (h : 0 < g.length) (q j : Int) (h0 : 0 ≤ j) (h1 : j ≤ g.length) : pre g (q * g.length + j) = q * g.sum + (g.take j.toNat).sum := by
  unfold pre
  have hl : (0 : Int) < g.length := by omega
  by_cases e : j = g.length
  · subst e
    have e1 : (q * (g.length : Int) + g.length) / g.length = q + 1 := by
      rw [show q * (g.length : Int) + g.length = (q + 1) * g.length by rw [Int.add_mul]; omega]
      exact Int.mul_ediv_cancel _ (by omega)
    have e2 : (q * (g.length : Int) + g.length) % g.length = 0 := by
      rw [show q * (g.length : Int) + g.length = (q + 1) * g.length by rw [Int.add_mul]; omega]
      exact Int.mul_emod_left _ _
    rw [e1, e2, Int.add_mul]
    simp
  · have e1 : (q * (g.length : Int) + j) / g.length = q := by
      rw [Int.add_comm, Int.add_mul_ediv_right _ _ (by omega), Int.ediv_eq_zero_of_lt h0 (by omega)]
      omega
    have e2 : (q * (g.length : Int) + j) % g.length = j := by
      rw [Int.add_comm, Int.add_mul_emod_self_right, Int.emod_eq_of_lt h0 (by omega)]
    rw [e1, e2]
theorem pre_up {g : List Int} (r : Row g) (k : Int) : pre g k ≤ pre g (k + 1) := by
  have hl : (0 : Int) < g.length := by have := r.one; omega
  have e : k = k / g.length * g.length + k % g.length := by rw [Int.mul_comm]; exact (Int.mul_ediv_add_emod k g.length).symm
  have h0 := Int.emod_nonneg k (show (g.length : Int) ≠ 0 by omega)
  have h1 := Int.emod_lt_of_pos k hl
  rw [show k + 1 = k / g.length * g.length + (k % g.length + 1) by omega, pre_at r.one _ _ (by omega) (by omega)]
  have e2 : pre g k = k / g.length * g.sum + (g.take (k % g.length).toNat).sum := rfl
  rw [e2, show (k % (g.length : Int) + 1).toNat = (k % (g.length : Int)).toNat + 1 by omega]
  have := take_up r.ge (k % (g.length : Int)).toNat
  omega
theorem pre_mono {g : List Int} (r : Row g) {k : Int} : ∀ n : Nat, pre g k ≤ pre g (k + n)
  | 0 => by simp
  | n + 1 => by
    have a := pre_mono r (k := k) n
    have b := pre_up r (k + n)
    rw [show k + ((n + 1 : Nat) : Int) = k + n + 1 by omega]
    omega
theorem pre_le {g : List Int} (r : Row g) {k l : Int} (h : k ≤ l) : pre g k ≤ pre g l := by
  have := pre_mono r (k := k) (l - k).toNat
  rwa [show k + ((l - k).toNat : Int) = l by omega] at this
theorem rest_of {T s : Int} (h : 0 < s) : 0 < T - (T - 1) / s * s ∧ T - (T - 1) / s * s ≤ s := by
  have e := Int.mul_ediv_add_emod (T - 1) s
  have h0 := Int.emod_nonneg (T - 1) (show s ≠ 0 by omega)
  have h1 := Int.emod_lt_of_pos (T - 1) h
  rw [Int.mul_comm] at e
  omega
theorem far_spec {g : List Int} (r : Row g) (T : Int) : T ≤ pre g (far g T) ∧ pre g (far g T - 1) < T := by
  obtain ⟨h0, h1⟩ := rest_of (T := T) r.pos
  obtain ⟨a1, a2, a3, a4⟩ := cn_spec r.ge h0 h1
  unfold far
  refine ⟨?_, ?_⟩
  · rw [pre_at r.one _ _ (by omega) a2]
    omega
  · rw [show (T - 1) / g.sum * g.length + cn g (T - (T - 1) / g.sum * g.sum) - 1 = (T - 1) / g.sum * g.length + (cn g (T - (T - 1) / g.sum * g.sum) - 1) by omega, pre_at r.one _ _ (by omega) (by omega)]
    omega
theorem far_least {g : List Int} (r : Row g) {T k : Int} (h : T ≤ pre g k) : far g T ≤ k := by
  refine Int.not_lt.mp fun q => ?_
  have := pre_le r (show k ≤ far g T - 1 by omega)
  have := (far_spec r T).2
  omega
theorem far_mono {g : List Int} (r : Row g) {T U : Int} (h : T ≤ U) : far g T ≤ far g U := far_least r (Int.le_trans h (far_spec r U).1)
theorem pre_rounds {g : List Int} (r : Row g) (k m : Int) : pre g (k + m * g.length) = pre g k + m * g.sum := by
  unfold pre
  have hl : (g.length : Int) ≠ 0 := by have := r.one; omega
  rw [Int.add_mul_ediv_right _ _ hl, Int.add_mul_emod_self_right, Int.add_mul]
  omega
theorem far_rounds {g : List Int} (r : Row g) (T m : Int) : far g (T + m * g.sum) = far g T + m * g.length := by
  unfold far
  have hl : g.sum ≠ 0 := by have := r.pos; omega
  have e : (T + m * g.sum - 1) / g.sum = (T - 1) / g.sum + m := by
    rw [show T + m * g.sum - 1 = T - 1 + m * g.sum by omega, Int.add_mul_ediv_right _ _ hl]
  rw [e, Int.add_mul, Int.add_mul, show T + m * g.sum - ((T - 1) / g.sum * g.sum + m * g.sum) = T - (T - 1) / g.sum * g.sum by omega]
  omega
theorem pre_bound {g : List Int} (r : Row g) {k : Int} (h0 : 0 ≤ k) (h1 : k ≤ 10 ^ 12) : 0 ≤ pre g k ∧ pre g k ≤ 10 ^ 15 := by
  have hp := r.pos
  have hs := r.sum_le
  have hl : (0 : Int) < g.length := by have := r.one; omega
  have z0 : pre g 0 = 0 := by unfold pre; simp
  have a := pre_le r h0
  refine ⟨by omega, ?_⟩
  unfold pre
  have t := take_le r.ge (k % g.length).toNat
  have d0 : k / g.length ≤ k := Int.ediv_le_self _ h0
  have d1 : 0 ≤ k / g.length := Int.ediv_nonneg h0 (by omega)
  have m := Int.mul_le_mul (show k / g.length ≤ 10 ^ 12 by omega) hs (by omega) (by omega)
  omega
theorem far_bound {g : List Int} (r : Row g) {T : Int} (h0 : -(10 ^ 15) ≤ T) (h1 : T ≤ 10 ^ 15) : -(10 ^ 20) ≤ far g T ∧ far g T ≤ 10 ^ 20 := by
  obtain ⟨a0, a1⟩ := rest_of (T := T) r.pos
  obtain ⟨c1, c2, _, _⟩ := cn_spec r.ge a0 a1
  have hp := r.pos
  have hf := r.few
  unfold far
  have d0 : (T - 1) / g.sum ≤ 10 ^ 15 := by
    by_cases q : 0 ≤ T - 1
    · exact Int.le_trans (Int.ediv_le_self _ q) (by omega)
    · have := Int.ediv_neg_of_neg_of_pos (show T - 1 < 0 by omega) hp
      omega
  have d1 : -(10 ^ 15 + 1) ≤ (T - 1) / g.sum := by
    refine (Int.le_ediv_iff_mul_le hp).mpr ?_
    have : (-(10 ^ 15 + 1) : Int) * g.sum ≤ -(10 ^ 15 + 1) * 1 := Int.mul_le_mul_of_nonpos_left (by decide) (by omega)
    omega
  have hl : (0 : Int) ≤ g.length := by omega
  have m1 : (T - 1) / g.sum * g.length ≤ 10 ^ 15 * g.length := Int.mul_le_mul_of_nonneg_right d0 hl
  have m2 : -(10 ^ 15 + 1) * (g.length : Int) ≤ (T - 1) / g.sum * g.length := Int.mul_le_mul_of_nonneg_right d1 hl
  omega
end Plain

set_option Elab.async false
set_option linter.all false
set_option maxRecDepth 100000
set_option maxHeartbeats 1000000
namespace Plain
open PySem PySem.Spec L2 ML Walk

abbrev rowD (g : List Int) : Dt := .tup (g.map Dt.int)
theorem cut_to (g : List Int) {i : Int} (h0 : 0 ≤ i) (h1 : i ≤ g.length) : cutL (g.map Dt.int) none (some i) = (g.take i.toNat).map Dt.int := by
  unfold cutL
  have e1 : HT.sIx (g.map Dt.int).length (g.map Dt.int).length (some i) = i.toNat := by
    rw [show i = ((i.toNat : Nat) : Int) by omega, HT.sIx_nat]
    simp; omega
  rw [e1, HT.sIx_none, List.drop_zero, Nat.sub_zero, List.map_take]
theorem sl_to {g : List Int} {i : Int} {S : Sto} (h0 : 0 ≤ i) (h1 : i ≤ g.length) : fSl (rowD g) none (some i) S = some (rowD (g.take i.toNat)) := by
  show some (Dt.tup (cutL (g.map Dt.int) none (some i))) = _
  rw [cut_to g h0 h1]
theorem len_rowD {g : List Int} {S : Sto} : fLen [rowD g] S = some (.int g.length) := by
  show some (Dt.int (g.map Dt.int).length) = _
  rw [List.length_map]
section
variable {g : List Int} {c : Int} {S : Sto}
theorem counted_eq (r : Row g) : m_counted [rowD g, .int c] S = .ok (.int (pre g c)) S := by
  have hl : (0 : Int) < g.length := by have := r.one; omega
  have hs := r.sum_le
  have hp := r.pos
  have hf := r.few
  have h0 := Int.emod_nonneg c (show (g.length : Int) ≠ 0 by omega)
  have h1 := Int.emod_lt_of_pos c hl
  refine ev_eq ?_
  unfold m_counted
  simp only [ev_def, ev_Then, ev_Put, ev_Set, ev_Rt, ev_Drop, ev_If, ev_B, ev_Not, ev_And, ev_Or, ev_AndV, ev_OrV, ev_NotV, ev_Chain, ev_m1, ev_m2, ev_mn, ev_cons, ev_nil, ev_var, ev_c, ev_P, ev_noP, ev_Sl, ev_New, ev_RepO, ev_call, ev_App, ev_mErr, ev_sNx, ev_Asg, ev_Aug, ev_Par2, ev_Par3, ev_For, ev_Walk, ev_Lc, ev_Dc, ev_Yes, ev_Try1, ev_ret, ev_ok, ev_exc, ev_new, ev_nx, ev_bnd, ev_rd, at1_eq, at2_eq, at3_eq, aft_nx, aft_rt, aft_bk, aft_ct, out_rt, out_nx, trn_nx, trn_bk, trn_ct, trn_rt, tru_bl, asInt_int, add_int, addI_int, sub_int, ML.neg_int', ML.lt_int', ML.le_int', ML.gt_int', ML.ge_int', max_int, min_int, int_int, len_tup, len_lst, tpl_lst, tpl_tup, ML.sum_tup, sum_lst, all_lst, ix_row_tup, ix_row_lst, ML.eq_int, ML.ne_int, row_tup, row_lst, nv0, List.map_cons, List.map_nil, List.length_cons, List.length_nil, List.length_map, List.replicate_succ, List.replicate_zero, List.cons_append, List.nil_append, List.set_cons_zero, List.set_cons_succ, List.getElem?_cons_zero, List.getElem?_cons_succ, Option.join_some, Option.some.injEq, exists_eq_left', decide_eq_true_eq, Nat.zero_add, true_and, and_true, if_true, if_false, Bool.not_eq_true', Bool.false_eq_true, dm_int hl (by omega : (g.length : Int) < 1073741824)]
  refine ⟨_, rfl, ?_⟩
  simp only [ev_def, ev_Then, ev_Put, ev_Set, ev_Rt, ev_Drop, ev_If, ev_B, ev_Not, ev_And, ev_Or, ev_AndV, ev_OrV, ev_NotV, ev_Chain, ev_m1, ev_m2, ev_mn, ev_cons, ev_nil, ev_var, ev_c, ev_P, ev_noP, ev_Sl, ev_New, ev_RepO, ev_call, ev_App, ev_mErr, ev_sNx, ev_Asg, ev_Aug, ev_Par2, ev_Par3, ev_For, ev_Walk, ev_Lc, ev_Dc, ev_Yes, ev_Try1, ev_ret, ev_ok, ev_exc, ev_new, ev_nx, ev_bnd, ev_rd, at1_eq, at2_eq, at3_eq, aft_nx, aft_rt, aft_bk, aft_ct, out_rt, out_nx, trn_nx, trn_bk, trn_ct, trn_rt, tru_bl, asInt_int, add_int, addI_int, sub_int, ML.neg_int', ML.lt_int', ML.le_int', ML.gt_int', ML.ge_int', max_int, min_int, int_int, len_tup, len_lst, tpl_lst, tpl_tup, ML.sum_tup, sum_lst, all_lst, ix_row_tup, ix_row_lst, ML.eq_int, ML.ne_int, row_tup, row_lst, nv0, List.map_cons, List.map_nil, List.length_cons, List.length_nil, List.length_map, List.replicate_succ, List.replicate_zero, List.cons_append, List.nil_append, List.set_cons_zero, List.set_cons_succ, List.getElem?_cons_zero, List.getElem?_cons_succ, Option.join_some, Option.some.injEq, exists_eq_left', decide_eq_true_eq, Nat.zero_add, true_and, and_true, if_true, if_false, Bool.not_eq_true', Bool.false_eq_true, mul_intR (j := g.sum) (by omega) (by omega), sl_to h0 (Int.le_of_lt h1)]
  rfl
theorem lsum_eq (r : Row g) : m__law_sum [rowD g, .int c] S = .ok (.int (pre g c)) S := by
  have hl : (0 : Int) < g.length := by have := r.one; omega
  have hs := r.sum_le
  have hp := r.pos
  have hf := r.few
  have h0 := Int.emod_nonneg c (show (g.length : Int) ≠ 0 by omega)
  have h1 := Int.emod_lt_of_pos c hl
  refine ev_eq ?_
  unfold m__law_sum
  simp only [ev_def, ev_Then, ev_Put, ev_Set, ev_Rt, ev_Drop, ev_If, ev_B, ev_Not, ev_And, ev_Or, ev_AndV, ev_OrV, ev_NotV, ev_Chain, ev_m1, ev_m2, ev_mn, ev_cons, ev_nil, ev_var, ev_c, ev_P, ev_noP, ev_Sl, ev_New, ev_RepO, ev_call, ev_App, ev_mErr, ev_sNx, ev_Asg, ev_Aug, ev_Par2, ev_Par3, ev_For, ev_Walk, ev_Lc, ev_Dc, ev_Yes, ev_Try1, ev_ret, ev_ok, ev_exc, ev_new, ev_nx, ev_bnd, ev_rd, at1_eq, at2_eq, at3_eq, aft_nx, aft_rt, aft_bk, aft_ct, out_rt, out_nx, trn_nx, trn_bk, trn_ct, trn_rt, tru_bl, asInt_int, add_int, addI_int, sub_int, ML.neg_int', ML.lt_int', ML.le_int', ML.gt_int', ML.ge_int', max_int, min_int, int_int, len_tup, len_lst, tpl_lst, tpl_tup, ML.sum_tup, sum_lst, all_lst, ix_row_tup, ix_row_lst, ML.eq_int, ML.ne_int, row_tup, row_lst, nv0, List.map_cons, List.map_nil, List.length_cons, List.length_nil, List.length_map, List.replicate_succ, List.replicate_zero, List.cons_append, List.nil_append, List.set_cons_zero, List.set_cons_succ, List.getElem?_cons_zero, List.getElem?_cons_succ, Option.join_some, Option.some.injEq, exists_eq_left', decide_eq_true_eq, Nat.zero_add, true_and, and_true, if_true, if_false, Bool.not_eq_true', Bool.false_eq_true, div_int hl (by omega : (g.length : Int) < 2 ^ 63), mod_int hl, mul_intR (j := g.sum) (by omega) (by omega), sl_to h0 (Int.le_of_lt h1)]
  rfl
end
theorem cn_pos {x : Int} {xs : List Int} {r : Int} (h : 0 < r) : cn (x :: xs) r = 1 + cn xs (r - x) := by
  show (if r ≤ 0 then 0 else 1 + cn xs (r - x)) = _
  rw [if_neg (by omega)]
/-! ### a line -/
structure Ln where
  a : Str
  b : Str
  g : List Int
  t : List Int
  st : Int
def Ln.dt (l : Ln) : Dt := .tup [.str l.a, .str l.b, rowD l.g, rowD l.t, .int l.st]
structure LnOk (l : Ln) : Prop where
  g : Row l.g
  t : Row l.t
  s0 : 0 ≤ l.st
  s1 : l.st ≤ 99999
def Ln.goal (l : Ln) (f : Int) : Int := pre l.t (f + 1) - l.st
section
variable {l : Ln} {f : Int} {S : Sto}
theorem at2' {α : Type} {a b c d e : α} : atI [a, b, c, d, e] 2 = some c := rfl
theorem at3' {α : Type} {a b c d e : α} : atI [a, b, c, d, e] 3 = some d := rfl
theorem at4' {α : Type} {a b c d e : α} : atI [a, b, c, d, e] 4 = some e := rfl
theorem far_eq (o : LnOk l) : m__law_far [l.dt, .int f] S = .ok (.int (far l.g (l.goal f))) S := by
  have hl : (0 : Int) < l.g.length := by have := o.g.one; omega
  have hs := o.g.sum_le
  have hp := o.g.pos
  have hf := o.g.few
  obtain ⟨h0, h1⟩ := rest_of (T := l.goal f) hp
  refine ev_eq ?_
  unfold m__law_far Ln.dt
  simp only [ev_def, ev_Then, ev_Put, ev_Set, ev_Rt, ev_Drop, ev_If, ev_B, ev_Not, ev_And, ev_Or, ev_AndV, ev_OrV, ev_NotV, ev_Chain, ev_m1, ev_m2, ev_mn, ev_cons, ev_nil, ev_var, ev_c, ev_P, ev_noP, ev_Sl, ev_New, ev_RepO, ev_call, ev_App, ev_mErr, ev_sNx, ev_Asg, ev_Aug, ev_Par2, ev_Par3, ev_For, ev_Walk, ev_Lc, ev_Dc, ev_Yes, ev_Try1, ev_ret, ev_ok, ev_exc, ev_new, ev_nx, ev_bnd, ev_rd, at1_eq, at2_eq, at3_eq, aft_nx, aft_rt, aft_bk, aft_ct, out_rt, out_nx, trn_nx, trn_bk, trn_ct, trn_rt, tru_bl, asInt_int, add_int, addI_int, sub_int, ML.neg_int', ML.lt_int', ML.le_int', ML.gt_int', ML.ge_int', max_int, min_int, int_int, len_tup, len_lst, tpl_lst, tpl_tup, ML.sum_tup, sum_lst, all_lst, ix_row_tup, ix_row_lst, ML.eq_int, ML.ne_int, row_tup, row_lst, nv0, List.map_cons, List.map_nil, List.length_cons, List.length_nil, List.length_map, List.replicate_succ, List.replicate_zero, List.cons_append, List.nil_append, List.set_cons_zero, List.set_cons_succ, List.getElem?_cons_zero, List.getElem?_cons_succ, Option.join_some, Option.some.injEq, exists_eq_left', decide_eq_true_eq, Nat.zero_add, true_and, and_true, if_true, if_false, Bool.not_eq_true', Bool.false_eq_true, at2', at3', at4', eq_ev (lsum_eq o.t), div_int hp (by omega : l.g.sum < 2 ^ 63), mul_intR (j := l.g.sum) (by omega) (by omega)]
  refine ⟨_, rfl, ?_⟩
  refine ev_forGo (I := fun items ρ S1 => ∃ (ns : List Int) (x3 : Option Dt) (so ct : Int), items = ns.map Dt.int ∧ S1 = S ∧ ρ = [some l.dt, some (.int f), some (.int (l.goal f - (l.goal f - 1) / l.g.sum * l.g.sum)), x3, some (.int (l.goal f)), some (.int l.g.sum), some (.int l.g.length), some (.int ((l.goal f - 1) / l.g.sum)), some (.int so), some (.int ct)] ∧
    so < l.goal f - (l.goal f - 1) / l.g.sum * l.g.sum ∧ ct + cn ns (l.goal f - (l.goal f - 1) / l.g.sum * l.g.sum - so) = cn l.g (l.goal f - (l.goal f - 1) / l.g.sum * l.g.sum)) ?_ ?_ _ _ _ ⟨l.g, none, 0, 0, rfl, rfl, rfl, h0, by rw [Int.sub_zero]; omega⟩
  · rintro d r ρ S1 ⟨ns, x3, so, ct, e1, rfl, rfl, h2, h3⟩
    cases ns with
    | nil => cases e1
    | cons x ns =>
      cases e1
      refine ⟨trivial, _, rfl, ?_⟩
      rw [cn_pos (by omega)] at h3
      simp only [ev_def, ev_Then, ev_Put, ev_Set, ev_Rt, ev_Drop, ev_If, ev_B, ev_Not, ev_And, ev_Or, ev_AndV, ev_OrV, ev_NotV, ev_Chain, ev_m1, ev_m2, ev_mn, ev_cons, ev_nil, ev_var, ev_c, ev_P, ev_noP, ev_Sl, ev_New, ev_RepO, ev_call, ev_App, ev_mErr, ev_sNx, ev_Asg, ev_Aug, ev_Par2, ev_Par3, ev_For, ev_Walk, ev_Lc, ev_Dc, ev_Yes, ev_Try1, ev_ret, ev_ok, ev_exc, ev_new, ev_nx, ev_bnd, ev_rd, at1_eq, at2_eq, at3_eq, aft_nx, aft_rt, aft_bk, aft_ct, out_rt, out_nx, trn_nx, trn_bk, trn_ct, trn_rt, tru_bl, asInt_int, add_int, addI_int, sub_int, ML.neg_int', ML.lt_int', ML.le_int', ML.gt_int', ML.ge_int', max_int, min_int, int_int, len_tup, len_lst, tpl_lst, tpl_tup, ML.sum_tup, sum_lst, all_lst, ix_row_tup, ix_row_lst, ML.eq_int, ML.ne_int, row_tup, row_lst, nv0, List.map_cons, List.map_nil, List.length_cons, List.length_nil, List.length_map, List.replicate_succ, List.replicate_zero, List.cons_append, List.nil_append, List.set_cons_zero, List.set_cons_succ, List.getElem?_cons_zero, List.getElem?_cons_succ, Option.join_some, Option.some.injEq, exists_eq_left', decide_eq_true_eq, Nat.zero_add, true_and, and_true, if_true, if_false, Bool.not_eq_true', Bool.false_eq_true]
      by_cases q : l.goal f - (l.goal f - 1) / l.g.sum * l.g.sum ≤ so + x
      · rw [if_pos q]
        rw [cn_le0 (by omega)] at h3
        simp only [ev_def, ev_Then, ev_Put, ev_Set, ev_Rt, ev_Drop, ev_If, ev_B, ev_Not, ev_And, ev_Or, ev_AndV, ev_OrV, ev_NotV, ev_Chain, ev_m1, ev_m2, ev_mn, ev_cons, ev_nil, ev_var, ev_c, ev_P, ev_noP, ev_Sl, ev_New, ev_RepO, ev_call, ev_App, ev_mErr, ev_sNx, ev_Asg, ev_Aug, ev_Par2, ev_Par3, ev_For, ev_Walk, ev_Lc, ev_Dc, ev_Yes, ev_Try1, ev_ret, ev_ok, ev_exc, ev_new, ev_nx, ev_bnd, ev_rd, at1_eq, at2_eq, at3_eq, aft_nx, aft_rt, aft_bk, aft_ct, out_rt, out_nx, trn_nx, trn_bk, trn_ct, trn_rt, tru_bl, asInt_int, add_int, addI_int, sub_int, ML.neg_int', ML.lt_int', ML.le_int', ML.gt_int', ML.ge_int', max_int, min_int, int_int, len_tup, len_lst, tpl_lst, tpl_tup, ML.sum_tup, sum_lst, all_lst, ix_row_tup, ix_row_lst, ML.eq_int, ML.ne_int, row_tup, row_lst, nv0, List.map_cons, List.map_nil, List.length_cons, List.length_nil, List.length_map, List.replicate_succ, List.replicate_zero, List.cons_append, List.nil_append, List.set_cons_zero, List.set_cons_succ, List.getElem?_cons_zero, List.getElem?_cons_succ, Option.join_some, Option.some.injEq, exists_eq_left', decide_eq_true_eq, Nat.zero_add, true_and, and_true, if_true, if_false, Bool.not_eq_true', Bool.false_eq_true, mul_intR (j := (l.g.length : Int)) (by omega) (by omega)]
        unfold far
        rw [← h3]
        congr 1 <;> omega
      · rw [if_neg q]
        exact ⟨ns, some (.int x), so + x, ct + 1, rfl, rfl, by omega, by rw [← h3, show l.goal f - (l.goal f - 1) / l.g.sum * l.g.sum - (so + x) = l.goal f - (l.goal f - 1) / l.g.sum * l.g.sum - so - x by omega]; omega⟩
  · rintro ρ S1 ⟨ns, x3, so, ct, e1, rfl, rfl, h2, h3⟩
    cases ns with
    | cons x ns => cases e1
    | nil =>
      refine ⟨trivial, ?_⟩
      simp only [ev_def, ev_Then, ev_Put, ev_Set, ev_Rt, ev_Drop, ev_If, ev_B, ev_Not, ev_And, ev_Or, ev_AndV, ev_OrV, ev_NotV, ev_Chain, ev_m1, ev_m2, ev_mn, ev_cons, ev_nil, ev_var, ev_c, ev_P, ev_noP, ev_Sl, ev_New, ev_RepO, ev_call, ev_App, ev_mErr, ev_sNx, ev_Asg, ev_Aug, ev_Par2, ev_Par3, ev_For, ev_Walk, ev_Lc, ev_Dc, ev_Yes, ev_Try1, ev_ret, ev_ok, ev_exc, ev_new, ev_nx, ev_bnd, ev_rd, at1_eq, at2_eq, at3_eq, aft_nx, aft_rt, aft_bk, aft_ct, out_rt, out_nx, trn_nx, trn_bk, trn_ct, trn_rt, tru_bl, asInt_int, add_int, addI_int, sub_int, ML.neg_int', ML.lt_int', ML.le_int', ML.gt_int', ML.ge_int', max_int, min_int, int_int, len_tup, len_lst, tpl_lst, tpl_tup, ML.sum_tup, sum_lst, all_lst, ix_row_tup, ix_row_lst, ML.eq_int, ML.ne_int, row_tup, row_lst, nv0, List.map_cons, List.map_nil, List.length_cons, List.length_nil, List.length_map, List.replicate_succ, List.replicate_zero, List.cons_append, List.nil_append, List.set_cons_zero, List.set_cons_succ, List.getElem?_cons_zero, List.getElem?_cons_succ, Option.join_some, Option.some.injEq, exists_eq_left', decide_eq_true_eq, Nat.zero_add, true_and, and_true, if_true, if_false, Bool.not_eq_true', Bool.false_eq_true, mul_intR (j := (l.g.length : Int)) (by omega) (by omega)]
      unfold far
      rw [← h3]
      rw [show cn [] (l.goal f - (l.goal f - 1) / l.g.sum * l.g.sum - so) = 0 from rfl]
      congr 1 <;> omega
end
end Plain

set_option Elab.async false
set_option linter.all false
set_option maxRecDepth 100000
set_option maxHeartbeats 1000000
namespace Plain
open PySem PySem.Spec L2 ML Walk

section
variable {g : List Int} {T : Int} {S : Sto}
theorem least_eq (r : Row g) : m_least_count [rowD g, .int T] S = .ok (.int (far g T)) S := by
  have hl : (0 : Int) < g.length := by have := r.one; omega
  have hs := r.sum_le
  have hp := r.pos
  have hf := r.few
  obtain ⟨h0, h1⟩ := rest_of (T := T) hp
  refine ev_eq ?_
  unfold m_least_count
  simp only [ev_def, ev_Then, ev_Put, ev_Set, ev_Rt, ev_Drop, ev_If, ev_B, ev_Not, ev_And, ev_Or, ev_AndV, ev_OrV, ev_NotV, ev_Chain, ev_m1, ev_m2, ev_mn, ev_cons, ev_nil, ev_var, ev_c, ev_P, ev_noP, ev_Sl, ev_New, ev_RepO, ev_call, ev_App, ev_mErr, ev_sNx, ev_Asg, ev_Aug, ev_Par2, ev_Par3, ev_For, ev_Walk, ev_Lc, ev_Dc, ev_Yes, ev_Try1, ev_ret, ev_ok, ev_exc, ev_new, ev_nx, ev_bnd, ev_rd, at1_eq, at2_eq, at3_eq, aft_nx, aft_rt, aft_bk, aft_ct, out_rt, out_nx, trn_nx, trn_bk, trn_ct, trn_rt, tru_bl, asInt_int, add_int, addI_int, sub_int, ML.neg_int', ML.lt_int', ML.le_int', ML.gt_int', ML.ge_int', max_int, min_int, int_int, len_tup, len_lst, tpl_lst, tpl_tup, ML.sum_tup, sum_lst, all_lst, ix_row_tup, ix_row_lst, ML.eq_int, ML.ne_int, row_tup, row_lst, nv0, List.map_cons, List.map_nil, List.length_cons, List.length_nil, List.length_map, List.replicate_succ, List.replicate_zero, List.cons_append, List.nil_append, List.set_cons_zero, List.set_cons_succ, List.getElem?_cons_zero, List.getElem?_cons_succ, Option.join_some, Option.some.injEq, exists_eq_left', decide_eq_true_eq, Nat.zero_add, true_and, and_true, if_true, if_false, Bool.not_eq_true', Bool.false_eq_true, div_int hp (by omega : g.sum < 2 ^ 63), mul_intR (j := g.sum) (by omega) (by omega), mul_intR (j := (g.length : Int)) (by omega) (by omega)]
  refine ev_while (I := fun n ρ S1 => S1 = S ∧ ∃ j : Nat, j ≤ g.length ∧ n = g.length - j ∧ ρ = [some (rowD g), some (.int T), some (.int g.sum), some (.int ((T - 1) / g.sum)), some (.int ((T - 1) / g.sum * g.length + j)), some (.int ((T - 1) / g.sum * g.sum + (g.take j).sum))] ∧
    j + cn (g.drop j) (T - (T - 1) / g.sum * g.sum - (g.take j).sum) = cn g (T - (T - 1) / g.sum * g.sum)) ?_ g.length _ _ ⟨rfl, 0, Nat.zero_le _, rfl, by simp, by simp⟩
  rintro n ρ S1 ⟨rfl, j, hj, rfl, rfl, hc⟩
  simp only [ev_def, ev_Then, ev_Put, ev_Set, ev_Rt, ev_Drop, ev_If, ev_B, ev_Not, ev_And, ev_Or, ev_AndV, ev_OrV, ev_NotV, ev_Chain, ev_m1, ev_m2, ev_mn, ev_cons, ev_nil, ev_var, ev_c, ev_P, ev_noP, ev_Sl, ev_New, ev_RepO, ev_call, ev_App, ev_mErr, ev_sNx, ev_Asg, ev_Aug, ev_Par2, ev_Par3, ev_For, ev_Walk, ev_Lc, ev_Dc, ev_Yes, ev_Try1, ev_ret, ev_ok, ev_exc, ev_new, ev_nx, ev_bnd, ev_rd, at1_eq, at2_eq, at3_eq, aft_nx, aft_rt, aft_bk, aft_ct, out_rt, out_nx, trn_nx, trn_bk, trn_ct, trn_rt, tru_bl, asInt_int, add_int, addI_int, sub_int, ML.neg_int', ML.lt_int', ML.le_int', ML.gt_int', ML.ge_int', max_int, min_int, int_int, len_tup, len_lst, tpl_lst, tpl_tup, ML.sum_tup, sum_lst, all_lst, ix_row_tup, ix_row_lst, ML.eq_int, ML.ne_int, row_tup, row_lst, nv0, List.map_cons, List.map_nil, List.length_cons, List.length_nil, List.length_map, List.replicate_succ, List.replicate_zero, List.cons_append, List.nil_append, List.set_cons_zero, List.set_cons_succ, List.getElem?_cons_zero, List.getElem?_cons_succ, Option.join_some, Option.some.injEq, exists_eq_left', decide_eq_true_eq, Nat.zero_add, true_and, and_true, if_true, if_false, Bool.not_eq_true', Bool.false_eq_true]
  by_cases q : (T - 1) / g.sum * g.sum + (g.take j).sum < T
  · rw [if_pos q]
    have hj2 : j < g.length := by
      refine Nat.lt_of_le_of_ne hj fun e => ?_
      rw [e, List.take_length] at q
      omega
    have e1 : ((T - 1) / g.sum * (g.length : Int) + j) % g.length = j := by
      rw [Int.add_comm, Int.add_mul_emod_self_right, Int.emod_eq_of_lt (by omega) (by omega)]
    have e2 : atI (g.map Dt.int) (j : Int) = some (.int g[j]) := by
      rw [atI_pos (by omega) (by simpa using hj2)]
      simp
    simp only [ev_def, ev_Then, ev_Put, ev_Set, ev_Rt, ev_Drop, ev_If, ev_B, ev_Not, ev_And, ev_Or, ev_AndV, ev_OrV, ev_NotV, ev_Chain, ev_m1, ev_m2, ev_mn, ev_cons, ev_nil, ev_var, ev_c, ev_P, ev_noP, ev_Sl, ev_New, ev_RepO, ev_call, ev_App, ev_mErr, ev_sNx, ev_Asg, ev_Aug, ev_Par2, ev_Par3, ev_For, ev_Walk, ev_Lc, ev_Dc, ev_Yes, ev_Try1, ev_ret, ev_ok, ev_exc, ev_new, ev_nx, ev_bnd, ev_rd, at1_eq, at2_eq, at3_eq, aft_nx, aft_rt, aft_bk, aft_ct, out_rt, out_nx, trn_nx, trn_bk, trn_ct, trn_rt, tru_bl, asInt_int, add_int, addI_int, sub_int, ML.neg_int', ML.lt_int', ML.le_int', ML.gt_int', ML.ge_int', max_int, min_int, int_int, len_tup, len_lst, tpl_lst, tpl_tup, ML.sum_tup, sum_lst, all_lst, ix_row_tup, ix_row_lst, ML.eq_int, ML.ne_int, row_tup, row_lst, nv0, List.map_cons, List.map_nil, List.length_cons, List.length_nil, List.length_map, List.replicate_succ, List.replicate_zero, List.cons_append, List.nil_append, List.set_cons_zero, List.set_cons_succ, List.getElem?_cons_zero, List.getElem?_cons_succ, Option.join_some, Option.some.injEq, exists_eq_left', decide_eq_true_eq, Nat.zero_add, true_and, and_true, if_true, if_false, Bool.not_eq_true', Bool.false_eq_true, mod_int hl, e1, e2]
    refine ⟨g.length - (j + 1), by omega, j + 1, hj2, rfl, ?_, ?_⟩
    · have : (g.take (j + 1)).sum = (g.take j).sum + g[j] := by rw [List.take_succ, List.getElem?_eq_getElem hj2, List.sum_append]; simp
      rw [this]
      simp only [Int.natCast_add, Int.add_assoc]
      rfl
    · rw [List.drop_eq_getElem_cons hj2, cn_pos (by omega)] at hc
      have : (g.take (j + 1)).sum = (g.take j).sum + g[j] := by rw [List.take_succ, List.getElem?_eq_getElem hj2, List.sum_append]; simp
      rw [← hc, this, show T - (T - 1) / g.sum * g.sum - ((g.take j).sum + g[j]) = T - (T - 1) / g.sum * g.sum - (g.take j).sum - g[j] by omega]
      omega
  · rw [if_neg q]
    rw [cn_le0 (by omega)] at hc
    unfold far
    rw [← hc]
    congr 1 <;> omega
end
/-- how many firings are needed -/
def Ln.nd (l : Ln) (f : Int) : Int := if far l.g (l.goal f) > 0 then far l.g (l.goal f) else 0
theorem Ln.nd_ge (l : Ln) (f : Int) : 0 ≤ l.nd f ∧ far l.g (l.goal f) ≤ l.nd f ∧ (0 < l.nd f → l.nd f = far l.g (l.goal f)) := by
  unfold Ln.nd
  split <;> omega
section
variable {l : Ln} {f : Int} {S : Sto}
theorem told_eq (o : LnOk l) : m_need_told [l.dt, .int f] S = .ok (.int (l.nd f)) S := by
  refine ev_eq ?_
  unfold m_need_told Ln.dt
  simp only [ev_def, ev_Then, ev_Put, ev_Set, ev_Rt, ev_Drop, ev_If, ev_B, ev_Not, ev_And, ev_Or, ev_AndV, ev_OrV, ev_NotV, ev_Chain, ev_m1, ev_m2, ev_mn, ev_cons, ev_nil, ev_var, ev_c, ev_P, ev_noP, ev_Sl, ev_New, ev_RepO, ev_call, ev_App, ev_mErr, ev_sNx, ev_Asg, ev_Aug, ev_Par2, ev_Par3, ev_For, ev_Walk, ev_Lc, ev_Dc, ev_Yes, ev_Try1, ev_ret, ev_ok, ev_exc, ev_new, ev_nx, ev_bnd, ev_rd, at1_eq, at2_eq, at3_eq, aft_nx, aft_rt, aft_bk, aft_ct, out_rt, out_nx, trn_nx, trn_bk, trn_ct, trn_rt, tru_bl, asInt_int, add_int, addI_int, sub_int, ML.neg_int', ML.lt_int', ML.le_int', ML.gt_int', ML.ge_int', max_int, min_int, int_int, len_tup, len_lst, tpl_lst, tpl_tup, ML.sum_tup, sum_lst, all_lst, ix_row_tup, ix_row_lst, ML.eq_int, ML.ne_int, row_tup, row_lst, nv0, List.map_cons, List.map_nil, List.length_cons, List.length_nil, List.length_map, List.replicate_succ, List.replicate_zero, List.cons_append, List.nil_append, List.set_cons_zero, List.set_cons_succ, List.getElem?_cons_zero, List.getElem?_cons_succ, Option.join_some, Option.some.injEq, exists_eq_left', decide_eq_true_eq, Nat.zero_add, true_and, and_true, if_true, if_false, Bool.not_eq_true', Bool.false_eq_true, at2', at3', at4', eq_ev (counted_eq o.t), eq_ev (least_eq o.g)]
  rfl
theorem rise_ev (o : LnOk l) (h0 : 0 ≤ f) (h1 : f ≤ 100000) : Ev NoE (m__law_rise [l.dt, .int f] S) fun r S' => (∃ v, r = .int v ∧ 0 ≤ v ∧ v ≤ 100000) ∧ S' = S := by
  unfold m__law_rise
  simp only [ev_def, ev_Then, ev_Put, ev_Set, ev_Rt, ev_Drop, ev_If, ev_B, ev_Not, ev_And, ev_Or, ev_AndV, ev_OrV, ev_NotV, ev_Chain, ev_m1, ev_m2, ev_mn, ev_cons, ev_nil, ev_var, ev_c, ev_P, ev_noP, ev_Sl, ev_New, ev_RepO, ev_call, ev_App, ev_mErr, ev_sNx, ev_Asg, ev_Aug, ev_Par2, ev_Par3, ev_For, ev_Walk, ev_Lc, ev_Dc, ev_Yes, ev_Try1, ev_ret, ev_ok, ev_exc, ev_new, ev_nx, ev_bnd, ev_rd, at1_eq, at2_eq, at3_eq, aft_nx, aft_rt, aft_bk, aft_ct, out_rt, out_nx, trn_nx, trn_bk, trn_ct, trn_rt, tru_bl, asInt_int, add_int, addI_int, sub_int, ML.neg_int', ML.lt_int', ML.le_int', ML.gt_int', ML.ge_int', max_int, min_int, int_int, len_tup, len_lst, tpl_lst, tpl_tup, ML.sum_tup, sum_lst, all_lst, ix_row_tup, ix_row_lst, ML.eq_int, ML.ne_int, row_tup, row_lst, nv0, List.map_cons, List.map_nil, List.length_cons, List.length_nil, List.length_map, List.replicate_succ, List.replicate_zero, List.cons_append, List.nil_append, List.set_cons_zero, List.set_cons_succ, List.getElem?_cons_zero, List.getElem?_cons_succ, Option.join_some, Option.some.injEq, exists_eq_left', decide_eq_true_eq, Nat.zero_add, true_and, and_true, if_true, if_false, Bool.not_eq_true', Bool.false_eq_true, eq_ev (far_eq o)]
  refine ev_forGo (I := fun items ρ S1 => S1 = S ∧ ∃ (x2 x6 : Option Dt) (lo hi du : Int), ρ = [some l.dt, some (.int f), x2, some (.int lo), some (.int hi), some (.int du), x6] ∧ 0 ≤ lo ∧ lo ≤ 100000 ∧ lo - 1 ≤ hi ∧ hi ≤ 100000) ?_ ?_ _ _ _ ⟨rfl, none, none, f, 100000, _, rfl, h0, h1, by omega, by omega⟩
  · rintro d r ρ S1 ⟨rfl, x2, x6, lo, hi, du, rfl, a1, a2, a3, a4⟩
    refine ⟨trivial, _, rfl, ?_⟩
    simp only [ev_def, ev_Then, ev_Put, ev_Set, ev_Rt, ev_Drop, ev_If, ev_B, ev_Not, ev_And, ev_Or, ev_AndV, ev_OrV, ev_NotV, ev_Chain, ev_m1, ev_m2, ev_mn, ev_cons, ev_nil, ev_var, ev_c, ev_P, ev_noP, ev_Sl, ev_New, ev_RepO, ev_call, ev_App, ev_mErr, ev_sNx, ev_Asg, ev_Aug, ev_Par2, ev_Par3, ev_For, ev_Walk, ev_Lc, ev_Dc, ev_Yes, ev_Try1, ev_ret, ev_ok, ev_exc, ev_new, ev_nx, ev_bnd, ev_rd, at1_eq, at2_eq, at3_eq, aft_nx, aft_rt, aft_bk, aft_ct, out_rt, out_nx, trn_nx, trn_bk, trn_ct, trn_rt, tru_bl, asInt_int, add_int, addI_int, sub_int, ML.neg_int', ML.lt_int', ML.le_int', ML.gt_int', ML.ge_int', max_int, min_int, int_int, len_tup, len_lst, tpl_lst, tpl_tup, ML.sum_tup, sum_lst, all_lst, ix_row_tup, ix_row_lst, ML.eq_int, ML.ne_int, row_tup, row_lst, nv0, List.map_cons, List.map_nil, List.length_cons, List.length_nil, List.length_map, List.replicate_succ, List.replicate_zero, List.cons_append, List.nil_append, List.set_cons_zero, List.set_cons_succ, List.getElem?_cons_zero, List.getElem?_cons_succ, Option.join_some, Option.some.injEq, exists_eq_left', decide_eq_true_eq, Nat.zero_add, true_and, and_true, if_true, if_false, Bool.not_eq_true', Bool.false_eq_true, div_int (j := 2) (by decide) (by decide), eq_ev (far_eq o)]
    by_cases q : (if far l.g (l.goal ((lo + hi + 1) / 2)) > 0 then far l.g (l.goal ((lo + hi + 1) / 2)) else 0) = du
    · rw [if_pos q]
      exact ⟨_, _, _, _, _, rfl, by omega, by omega, by omega, by omega⟩
    · rw [if_neg q]
      exact ⟨_, _, _, _, _, rfl, by omega, by omega, by omega, by omega⟩
  · rintro ρ S1 ⟨rfl, x2, x6, lo, hi, du, rfl, a1, a2, a3, a4⟩
    refine ⟨trivial, ?_⟩
    simp only [ev_def, ev_Then, ev_Put, ev_Set, ev_Rt, ev_Drop, ev_If, ev_B, ev_Not, ev_And, ev_Or, ev_AndV, ev_OrV, ev_NotV, ev_Chain, ev_m1, ev_m2, ev_mn, ev_cons, ev_nil, ev_var, ev_c, ev_P, ev_noP, ev_Sl, ev_New, ev_RepO, ev_call, ev_App, ev_mErr, ev_sNx, ev_Asg, ev_Aug, ev_Par2, ev_Par3, ev_For, ev_Walk, ev_Lc, ev_Dc, ev_Yes, ev_Try1, ev_ret, ev_ok, ev_exc, ev_new, ev_nx, ev_bnd, ev_rd, at1_eq, at2_eq, at3_eq, aft_nx, aft_rt, aft_bk, aft_ct, out_rt, out_nx, trn_nx, trn_bk, trn_ct, trn_rt, tru_bl, asInt_int, add_int, addI_int, sub_int, ML.neg_int', ML.lt_int', ML.le_int', ML.gt_int', ML.ge_int', max_int, min_int, int_int, len_tup, len_lst, tpl_lst, tpl_tup, ML.sum_tup, sum_lst, all_lst, ix_row_tup, ix_row_lst, ML.eq_int, ML.ne_int, row_tup, row_lst, nv0, List.map_cons, List.map_nil, List.length_cons, List.length_nil, List.length_map, List.replicate_succ, List.replicate_zero, List.cons_append, List.nil_append, List.set_cons_zero, List.set_cons_succ, List.getElem?_cons_zero, List.getElem?_cons_succ, Option.join_some, Option.some.injEq, exists_eq_left', decide_eq_true_eq, Nat.zero_add, true_and, and_true, if_true, if_false, Bool.not_eq_true', Bool.false_eq_true]
    exact ⟨lo, rfl, a1, a2⟩
theorem shared_ev {a b : Int} (ha : 0 < a) (hb : 0 < b) (hb2 : b ≤ 216) : Ev NoE (m__law_shared [.int a, .int b] S) fun r S' => (∃ d, r = .int d ∧ 0 < d ∧ d ∣ a ∧ d ∣ b) ∧ S' = S := by
  unfold m__law_shared
  simp only [ev_def, ev_Then, ev_Put, ev_Set, ev_Rt, ev_Drop, ev_If, ev_B, ev_Not, ev_And, ev_Or, ev_AndV, ev_OrV, ev_NotV, ev_Chain, ev_m1, ev_m2, ev_mn, ev_cons, ev_nil, ev_var, ev_c, ev_P, ev_noP, ev_Sl, ev_New, ev_RepO, ev_call, ev_App, ev_mErr, ev_sNx, ev_Asg, ev_Aug, ev_Par2, ev_Par3, ev_For, ev_Walk, ev_Lc, ev_Dc, ev_Yes, ev_Try1, ev_ret, ev_ok, ev_exc, ev_new, ev_nx, ev_bnd, ev_rd, at1_eq, at2_eq, at3_eq, aft_nx, aft_rt, aft_bk, aft_ct, out_rt, out_nx, trn_nx, trn_bk, trn_ct, trn_rt, tru_bl, asInt_int, add_int, addI_int, sub_int, ML.neg_int', ML.lt_int', ML.le_int', ML.gt_int', ML.ge_int', max_int, min_int, int_int, len_tup, len_lst, tpl_lst, tpl_tup, ML.sum_tup, sum_lst, all_lst, ix_row_tup, ix_row_lst, ML.eq_int, ML.ne_int, row_tup, row_lst, nv0, List.map_cons, List.map_nil, List.length_cons, List.length_nil, List.length_map, List.replicate_succ, List.replicate_zero, List.cons_append, List.nil_append, List.set_cons_zero, List.set_cons_succ, List.getElem?_cons_zero, List.getElem?_cons_succ, Option.join_some, Option.some.injEq, exists_eq_left', decide_eq_true_eq, Nat.zero_add, true_and, and_true, if_true, if_false, Bool.not_eq_true', Bool.false_eq_true]
  refine ev_forGo (I := fun items ρ S1 => S1 = S ∧ ∃ (x2 : Option Dt) (x y : Int), ρ = [some (.int x), some (.int y), x2] ∧ 0 < x ∧ 0 ≤ y ∧ y < items.length ∧ ∀ d, d ∣ x → d ∣ y → d ∣ a ∧ d ∣ b) ?_ ?_ _ _ _ ⟨rfl, none, a, b, rfl, ha, by omega, ?_, fun d h1 h2 => ⟨h1, h2⟩⟩
  · rintro d r ρ S1 ⟨rfl, x2, x, y, rfl, a1, a2, a3, a4⟩
    refine ⟨trivial, _, rfl, ?_⟩
    simp only [ev_def, ev_Then, ev_Put, ev_Set, ev_Rt, ev_Drop, ev_If, ev_B, ev_Not, ev_And, ev_Or, ev_AndV, ev_OrV, ev_NotV, ev_Chain, ev_m1, ev_m2, ev_mn, ev_cons, ev_nil, ev_var, ev_c, ev_P, ev_noP, ev_Sl, ev_New, ev_RepO, ev_call, ev_App, ev_mErr, ev_sNx, ev_Asg, ev_Aug, ev_Par2, ev_Par3, ev_For, ev_Walk, ev_Lc, ev_Dc, ev_Yes, ev_Try1, ev_ret, ev_ok, ev_exc, ev_new, ev_nx, ev_bnd, ev_rd, at1_eq, at2_eq, at3_eq, aft_nx, aft_rt, aft_bk, aft_ct, out_rt, out_nx, trn_nx, trn_bk, trn_ct, trn_rt, tru_bl, asInt_int, add_int, addI_int, sub_int, ML.neg_int', ML.lt_int', ML.le_int', ML.gt_int', ML.ge_int', max_int, min_int, int_int, len_tup, len_lst, tpl_lst, tpl_tup, ML.sum_tup, sum_lst, all_lst, ix_row_tup, ix_row_lst, ML.eq_int, ML.ne_int, row_tup, row_lst, nv0, List.map_cons, List.map_nil, List.length_cons, List.length_nil, List.length_map, List.replicate_succ, List.replicate_zero, List.cons_append, List.nil_append, List.set_cons_zero, List.set_cons_succ, List.getElem?_cons_zero, List.getElem?_cons_succ, Option.join_some, Option.some.injEq, exists_eq_left', decide_eq_true_eq, Nat.zero_add, true_and, and_true, if_true, if_false, Bool.not_eq_true', Bool.false_eq_true]
    by_cases q : y = 0
    · rw [if_pos q]
      subst q
      obtain ⟨h1, h2⟩ := a4 x (Int.dvd_refl x) (Int.dvd_zero x)
      exact ⟨x, rfl, a1, h1, h2⟩
    · rw [if_neg q]
      have hy : 0 < y := by omega
      have b1 := Int.emod_lt_of_pos x hy
      have b2 := Int.emod_nonneg x q
      rw [List.length_cons] at a3
      simp only [ev_def, ev_Then, ev_Put, ev_Set, ev_Rt, ev_Drop, ev_If, ev_B, ev_Not, ev_And, ev_Or, ev_AndV, ev_OrV, ev_NotV, ev_Chain, ev_m1, ev_m2, ev_mn, ev_cons, ev_nil, ev_var, ev_c, ev_P, ev_noP, ev_Sl, ev_New, ev_RepO, ev_call, ev_App, ev_mErr, ev_sNx, ev_Asg, ev_Aug, ev_Par2, ev_Par3, ev_For, ev_Walk, ev_Lc, ev_Dc, ev_Yes, ev_Try1, ev_ret, ev_ok, ev_exc, ev_new, ev_nx, ev_bnd, ev_rd, at1_eq, at2_eq, at3_eq, aft_nx, aft_rt, aft_bk, aft_ct, out_rt, out_nx, trn_nx, trn_bk, trn_ct, trn_rt, tru_bl, asInt_int, add_int, addI_int, sub_int, ML.neg_int', ML.lt_int', ML.le_int', ML.gt_int', ML.ge_int', max_int, min_int, int_int, len_tup, len_lst, tpl_lst, tpl_tup, ML.sum_tup, sum_lst, all_lst, ix_row_tup, ix_row_lst, ML.eq_int, ML.ne_int, row_tup, row_lst, nv0, List.map_cons, List.map_nil, List.length_cons, List.length_nil, List.length_map, List.replicate_succ, List.replicate_zero, List.cons_append, List.nil_append, List.set_cons_zero, List.set_cons_succ, List.getElem?_cons_zero, List.getElem?_cons_succ, Option.join_some, Option.some.injEq, exists_eq_left', decide_eq_true_eq, Nat.zero_add, true_and, and_true, if_true, if_false, Bool.not_eq_true', Bool.false_eq_true, mod_int hy]
      refine ⟨_, y, x % y, rfl, hy, b2, by omega, fun d h1 h2 => a4 d ?_ h1⟩
      have e := Int.mul_ediv_add_emod x y
      rw [← e]
      exact Int.dvd_add (Int.dvd_mul_of_dvd_left h1) h2
  · rintro ρ S1 ⟨rfl, x2, x, y, rfl, a1, a2, a3, a4⟩
    simp at a3
    omega
  · show b < ((List.range 2000).map _).length
    simp
    omega
end
end Plain

set_option Elab.async false
set_option linter.all false
set_option maxRecDepth 100000
set_option maxHeartbeats 1000000
namespace Plain
open PySem PySem.Spec L2 ML Walk

/-! ### numbers, tuples -/
/-- the kinds that are asked about -/
def Dt.plain : Dt → Bool
  | .non | .bl _ | .int _ | .str _ | .tup _ => true
  | _ => false
def isW : Dt → Bool
  | .int _ => true
  | _ => false
def isB (lo hi : Int) : Dt → Bool
  | .int i => decide (lo ≤ i) && decide (i ≤ hi)
  | _ => false
section
variable {S : Sto} {d : Dt} {i lo hi : Int} {xs : List Dt} {s : Str}
theorem isi_int (c : String) {b : Bool} (h : kitB "int" c = some b) : fIsi [.int i, .raw (.ty c)] S = some (.bl b) := by
  show ((some "int").bind fun t => kitB t c).map Dt.bl = _
  rw [Option.bind_some, h]; rfl
theorem isi_bl (c : String) {b k : Bool} (h : kitB "bool" c = some b) : fIsi [.bl k, .raw (.ty c)] S = some (.bl b) := by
  show ((some "bool").bind fun t => kitB t c).map Dt.bl = _
  rw [Option.bind_some, h]; rfl
theorem isi_non (c : String) {b : Bool} (h : kitB "NoneType" c = some b) : fIsi [.non, .raw (.ty c)] S = some (.bl b) := by
  show ((some "NoneType").bind fun t => kitB t c).map Dt.bl = _
  rw [Option.bind_some, h]; rfl
theorem isi_str (c : String) {b : Bool} (h : kitB "str" c = some b) : fIsi [.str s, .raw (.ty c)] S = some (.bl b) := by
  show ((some "str").bind fun t => kitB t c).map Dt.bl = _
  rw [Option.bind_some, h]; rfl
theorem isi_tup (c : String) {b : Bool} (h : kitB "tuple" c = some b) : fIsi [.tup xs, .raw (.ty c)] S = some (.bl b) := by
  show ((some "tuple").bind fun t => kitB t c).map Dt.bl = _
  rw [Option.bind_some, h]; rfl
theorem ki_ii : kitB "int" "int" = some true := by decide +kernel
theorem ki_ib : kitB "int" "bool" = some false := by decide +kernel
theorem ki_bi : kitB "bool" "int" = some true := by decide +kernel
theorem ki_bb : kitB "bool" "bool" = some true := by decide +kernel
theorem ki_ni : kitB "NoneType" "int" = some false := by decide +kernel
theorem ki_si : kitB "str" "int" = some false := by decide +kernel
theorem ki_ss : kitB "str" "str" = some true := by decide +kernel
theorem ki_ti : kitB "tuple" "int" = some false := by decide +kernel
theorem ki_tt : kitB "tuple" "tuple" = some true := by decide +kernel
theorem whole_eq (h : Dt.plain d = true) : m_is_whole [d] S = .ok (.bl (isW d)) S := by
  refine ev_eq ?_
  unfold m_is_whole
  cases d with
  | int i => simp only [ev_def, ev_Then, ev_Put, ev_Set, ev_Rt, ev_Drop, ev_If, ev_B, ev_Not, ev_And, ev_Or, ev_AndV, ev_OrV, ev_NotV, ev_Chain, ev_m1, ev_m2, ev_mn, ev_cons, ev_nil, ev_var, ev_c, ev_P, ev_noP, ev_Sl, ev_New, ev_RepO, ev_call, ev_App, ev_mErr, ev_sNx, ev_Asg, ev_Aug, ev_Par2, ev_Par3, ev_For, ev_Walk, ev_Lc, ev_Dc, ev_Yes, ev_Try1, ev_ret, ev_ok, ev_exc, ev_new, ev_nx, ev_bnd, ev_rd, at1_eq, at2_eq, at3_eq, aft_nx, aft_rt, aft_bk, aft_ct, out_rt, out_nx, trn_nx, trn_bk, trn_ct, trn_rt, tru_bl, asInt_int, add_int, addI_int, sub_int, ML.neg_int', ML.lt_int', ML.le_int', ML.gt_int', ML.ge_int', max_int, min_int, int_int, len_tup, len_lst, tpl_lst, tpl_tup, ML.sum_tup, sum_lst, all_lst, ix_row_tup, ix_row_lst, ML.eq_int, ML.ne_int, row_tup, row_lst, nv0, List.map_cons, List.map_nil, List.length_cons, List.length_nil, List.length_map, List.replicate_succ, List.replicate_zero, List.cons_append, List.nil_append, List.set_cons_zero, List.set_cons_succ, List.getElem?_cons_zero, List.getElem?_cons_succ, Option.join_some, Option.some.injEq, exists_eq_left', decide_eq_true_eq, Nat.zero_add, true_and, and_true, if_true, if_false, Bool.not_eq_true', Bool.false_eq_true, isi_int _ ki_ii, isi_int _ ki_ib]; simp [isW]
  | bl b => simp only [ev_def, ev_Then, ev_Put, ev_Set, ev_Rt, ev_Drop, ev_If, ev_B, ev_Not, ev_And, ev_Or, ev_AndV, ev_OrV, ev_NotV, ev_Chain, ev_m1, ev_m2, ev_mn, ev_cons, ev_nil, ev_var, ev_c, ev_P, ev_noP, ev_Sl, ev_New, ev_RepO, ev_call, ev_App, ev_mErr, ev_sNx, ev_Asg, ev_Aug, ev_Par2, ev_Par3, ev_For, ev_Walk, ev_Lc, ev_Dc, ev_Yes, ev_Try1, ev_ret, ev_ok, ev_exc, ev_new, ev_nx, ev_bnd, ev_rd, at1_eq, at2_eq, at3_eq, aft_nx, aft_rt, aft_bk, aft_ct, out_rt, out_nx, trn_nx, trn_bk, trn_ct, trn_rt, tru_bl, asInt_int, add_int, addI_int, sub_int, ML.neg_int', ML.lt_int', ML.le_int', ML.gt_int', ML.ge_int', max_int, min_int, int_int, len_tup, len_lst, tpl_lst, tpl_tup, ML.sum_tup, sum_lst, all_lst, ix_row_tup, ix_row_lst, ML.eq_int, ML.ne_int, row_tup, row_lst, nv0, List.map_cons, List.map_nil, List.length_cons, List.length_nil, List.length_map, List.replicate_succ, List.replicate_zero, List.cons_append, List.nil_append, List.set_cons_zero, List.set_cons_succ, List.getElem?_cons_zero, List.getElem?_cons_succ, Option.join_some, Option.some.injEq, exists_eq_left', decide_eq_true_eq, Nat.zero_add, true_and, and_true, if_true, if_false, Bool.not_eq_true', Bool.false_eq_true, isi_bl _ ki_bi, isi_bl _ ki_bb]; simp [isW]
  | non => simp only [ev_def, ev_Then, ev_Put, ev_Set, ev_Rt, ev_Drop, ev_If, ev_B, ev_Not, ev_And, ev_Or, ev_AndV, ev_OrV, ev_NotV, ev_Chain, ev_m1, ev_m2, ev_mn, ev_cons, ev_nil, ev_var, ev_c, ev_P, ev_noP, ev_Sl, ev_New, ev_RepO, ev_call, ev_App, ev_mErr, ev_sNx, ev_Asg, ev_Aug, ev_Par2, ev_Par3, ev_For, ev_Walk, ev_Lc, ev_Dc, ev_Yes, ev_Try1, ev_ret, ev_ok, ev_exc, ev_new, ev_nx, ev_bnd, ev_rd, at1_eq, at2_eq, at3_eq, aft_nx, aft_rt, aft_bk, aft_ct, out_rt, out_nx, trn_nx, trn_bk, trn_ct, trn_rt, tru_bl, asInt_int, add_int, addI_int, sub_int, ML.neg_int', ML.lt_int', ML.le_int', ML.gt_int', ML.ge_int', max_int, min_int, int_int, len_tup, len_lst, tpl_lst, tpl_tup, ML.sum_tup, sum_lst, all_lst, ix_row_tup, ix_row_lst, ML.eq_int, ML.ne_int, row_tup, row_lst, nv0, List.map_cons, List.map_nil, List.length_cons, List.length_nil, List.length_map, List.replicate_succ, List.replicate_zero, List.cons_append, List.nil_append, List.set_cons_zero, List.set_cons_succ, List.getElem?_cons_zero, List.getElem?_cons_succ, Option.join_some, Option.some.injEq, exists_eq_left', decide_eq_true_eq, Nat.zero_add, true_and, and_true, if_true, if_false, Bool.not_eq_true', Bool.false_eq_true, isi_non _ ki_ni]; simp [isW]
  | str s => simp only [ev_def, ev_Then, ev_Put, ev_Set, ev_Rt, ev_Drop, ev_If, ev_B, ev_Not, ev_And, ev_Or, ev_AndV, ev_OrV, ev_NotV, ev_Chain, ev_m1, ev_m2, ev_mn, ev_cons, ev_nil, ev_var, ev_c, ev_P, ev_noP, ev_Sl, ev_New, ev_RepO, ev_call, ev_App, ev_mErr, ev_sNx, ev_Asg, ev_Aug, ev_Par2, ev_Par3, ev_For, ev_Walk, ev_Lc, ev_Dc, ev_Yes, ev_Try1, ev_ret, ev_ok, ev_exc, ev_new, ev_nx, ev_bnd, ev_rd, at1_eq, at2_eq, at3_eq, aft_nx, aft_rt, aft_bk, aft_ct, out_rt, out_nx, trn_nx, trn_bk, trn_ct, trn_rt, tru_bl, asInt_int, add_int, addI_int, sub_int, ML.neg_int', ML.lt_int', ML.le_int', ML.gt_int', ML.ge_int', max_int, min_int, int_int, len_tup, len_lst, tpl_lst, tpl_tup, ML.sum_tup, sum_lst, all_lst, ix_row_tup, ix_row_lst, ML.eq_int, ML.ne_int, row_tup, row_lst, nv0, List.map_cons, List.map_nil, List.length_cons, List.length_nil, List.length_map, List.replicate_succ, List.replicate_zero, List.cons_append, List.nil_append, List.set_cons_zero, List.set_cons_succ, List.getElem?_cons_zero, List.getElem?_cons_succ, Option.join_some, Option.some.injEq, exists_eq_left', decide_eq_true_eq, Nat.zero_add, true_and, and_true, if_true, if_false, Bool.not_eq_true', Bool.false_eq_true, isi_str _ ki_si]; simp [isW]
  | tup xs => simp only [ev_def, ev_Then, ev_Put, ev_Set, ev_Rt, ev_Drop, ev_If, ev_B, ev_Not, ev_And, ev_Or, ev_AndV, ev_OrV, ev_NotV, ev_Chain, ev_m1, ev_m2, ev_mn, ev_cons, ev_nil, ev_var, ev_c, ev_P, ev_noP, ev_Sl, ev_New, ev_RepO, ev_call, ev_App, ev_mErr, ev_sNx, ev_Asg, ev_Aug, ev_Par2, ev_Par3, ev_For, ev_Walk, ev_Lc, ev_Dc, ev_Yes, ev_Try1, ev_ret, ev_ok, ev_exc, ev_new, ev_nx, ev_bnd, ev_rd, at1_eq, at2_eq, at3_eq, aft_nx, aft_rt, aft_bk, aft_ct, out_rt, out_nx, trn_nx, trn_bk, trn_ct, trn_rt, tru_bl, asInt_int, add_int, addI_int, sub_int, ML.neg_int', ML.lt_int', ML.le_int', ML.gt_int', ML.ge_int', max_int, min_int, int_int, len_tup, len_lst, tpl_lst, tpl_tup, ML.sum_tup, sum_lst, all_lst, ix_row_tup, ix_row_lst, ML.eq_int, ML.ne_int, row_tup, row_lst, nv0, List.map_cons, List.map_nil, List.length_cons, List.length_nil, List.length_map, List.replicate_succ, List.replicate_zero, List.cons_append, List.nil_append, List.set_cons_zero, List.set_cons_succ, List.getElem?_cons_zero, List.getElem?_cons_succ, Option.join_some, Option.some.injEq, exists_eq_left', decide_eq_true_eq, Nat.zero_add, true_and, and_true, if_true, if_false, Bool.not_eq_true', Bool.false_eq_true, isi_tup _ ki_ti]; simp [isW]
  | _ => cases h
theorem between_eq (h : Dt.plain d = true) : m_is_between [d, .int lo, .int hi] S = .ok (.bl (isB lo hi d)) S := by
  refine ev_eq ?_
  unfold m_is_between
  simp only [ev_def, ev_Then, ev_Put, ev_Set, ev_Rt, ev_Drop, ev_If, ev_B, ev_Not, ev_And, ev_Or, ev_AndV, ev_OrV, ev_NotV, ev_Chain, ev_m1, ev_m2, ev_mn, ev_cons, ev_nil, ev_var, ev_c, ev_P, ev_noP, ev_Sl, ev_New, ev_RepO, ev_call, ev_App, ev_mErr, ev_sNx, ev_Asg, ev_Aug, ev_Par2, ev_Par3, ev_For, ev_Walk, ev_Lc, ev_Dc, ev_Yes, ev_Try1, ev_ret, ev_ok, ev_exc, ev_new, ev_nx, ev_bnd, ev_rd, at1_eq, at2_eq, at3_eq, aft_nx, aft_rt, aft_bk, aft_ct, out_rt, out_nx, trn_nx, trn_bk, trn_ct, trn_rt, tru_bl, asInt_int, add_int, addI_int, sub_int, ML.neg_int', ML.lt_int', ML.le_int', ML.gt_int', ML.ge_int', max_int, min_int, int_int, len_tup, len_lst, tpl_lst, tpl_tup, ML.sum_tup, sum_lst, all_lst, ix_row_tup, ix_row_lst, ML.eq_int, ML.ne_int, row_tup, row_lst, nv0, List.map_cons, List.map_nil, List.length_cons, List.length_nil, List.length_map, List.replicate_succ, List.replicate_zero, List.cons_append, List.nil_append, List.set_cons_zero, List.set_cons_succ, List.getElem?_cons_zero, List.getElem?_cons_succ, Option.join_some, Option.some.injEq, exists_eq_left', decide_eq_true_eq, Nat.zero_add, true_and, and_true, if_true, if_false, Bool.not_eq_true', Bool.false_eq_true, eq_ev (whole_eq h)]
  cases d with
  | int i =>
    simp only [isW, if_true, ev_def, ev_Then, ev_Put, ev_Set, ev_Rt, ev_Drop, ev_If, ev_B, ev_Not, ev_And, ev_Or, ev_AndV, ev_OrV, ev_NotV, ev_Chain, ev_m1, ev_m2, ev_mn, ev_cons, ev_nil, ev_var, ev_c, ev_P, ev_noP, ev_Sl, ev_New, ev_RepO, ev_call, ev_App, ev_mErr, ev_sNx, ev_Asg, ev_Aug, ev_Par2, ev_Par3, ev_For, ev_Walk, ev_Lc, ev_Dc, ev_Yes, ev_Try1, ev_ret, ev_ok, ev_exc, ev_new, ev_nx, ev_bnd, ev_rd, at1_eq, at2_eq, at3_eq, aft_nx, aft_rt, aft_bk, aft_ct, out_rt, out_nx, trn_nx, trn_bk, trn_ct, trn_rt, tru_bl, asInt_int, add_int, addI_int, sub_int, ML.neg_int', ML.lt_int', ML.le_int', ML.gt_int', ML.ge_int', max_int, min_int, int_int, len_tup, len_lst, tpl_lst, tpl_tup, ML.sum_tup, sum_lst, all_lst, ix_row_tup, ix_row_lst, ML.eq_int, ML.ne_int, row_tup, row_lst, nv0, List.map_cons, List.map_nil, List.length_cons, List.length_nil, List.length_map, List.replicate_succ, List.replicate_zero, List.cons_append, List.nil_append, List.set_cons_zero, List.set_cons_succ, List.getElem?_cons_zero, List.getElem?_cons_succ, Option.join_some, Option.some.injEq, exists_eq_left', decide_eq_true_eq, Nat.zero_add, true_and, and_true, if_true, if_false, Bool.not_eq_true', Bool.false_eq_true, isB]
    by_cases q : lo ≤ i <;> simp [q]
  | _ => simp [isW, isB]
theorem tuple_eq : m_is_tuple_of [.tup xs, .int lo, .int hi] S = .ok (.bl (decide (lo ≤ xs.length) && decide ((xs.length : Int) ≤ hi))) S := by
  refine ev_eq ?_
  unfold m_is_tuple_of
  simp only [ev_def, ev_Then, ev_Put, ev_Set, ev_Rt, ev_Drop, ev_If, ev_B, ev_Not, ev_And, ev_Or, ev_AndV, ev_OrV, ev_NotV, ev_Chain, ev_m1, ev_m2, ev_mn, ev_cons, ev_nil, ev_var, ev_c, ev_P, ev_noP, ev_Sl, ev_New, ev_RepO, ev_call, ev_App, ev_mErr, ev_sNx, ev_Asg, ev_Aug, ev_Par2, ev_Par3, ev_For, ev_Walk, ev_Lc, ev_Dc, ev_Yes, ev_Try1, ev_ret, ev_ok, ev_exc, ev_new, ev_nx, ev_bnd, ev_rd, at1_eq, at2_eq, at3_eq, aft_nx, aft_rt, aft_bk, aft_ct, out_rt, out_nx, trn_nx, trn_bk, trn_ct, trn_rt, tru_bl, asInt_int, add_int, addI_int, sub_int, ML.neg_int', ML.lt_int', ML.le_int', ML.gt_int', ML.ge_int', max_int, min_int, int_int, len_tup, len_lst, tpl_lst, tpl_tup, ML.sum_tup, sum_lst, all_lst, ix_row_tup, ix_row_lst, ML.eq_int, ML.ne_int, row_tup, row_lst, nv0, List.map_cons, List.map_nil, List.length_cons, List.length_nil, List.length_map, List.replicate_succ, List.replicate_zero, List.cons_append, List.nil_append, List.set_cons_zero, List.set_cons_succ, List.getElem?_cons_zero, List.getElem?_cons_succ, Option.join_some, Option.some.injEq, exists_eq_left', decide_eq_true_eq, Nat.zero_add, true_and, and_true, if_true, if_false, Bool.not_eq_true', Bool.false_eq_true, isi_tup _ ki_tt]
  by_cases q : lo ≤ xs.length <;> simp [q]
theorem number_ok (h : Dt.plain d = true) (k : isB lo hi d = true) : m_need_number [d, .int lo, .int hi] S = .ok .non S := by
  refine ev_eq ?_
  unfold m_need_number
  simp only [ev_def, ev_Then, ev_Put, ev_Set, ev_Rt, ev_Drop, ev_If, ev_B, ev_Not, ev_And, ev_Or, ev_AndV, ev_OrV, ev_NotV, ev_Chain, ev_m1, ev_m2, ev_mn, ev_cons, ev_nil, ev_var, ev_c, ev_P, ev_noP, ev_Sl, ev_New, ev_RepO, ev_call, ev_App, ev_mErr, ev_sNx, ev_Asg, ev_Aug, ev_Par2, ev_Par3, ev_For, ev_Walk, ev_Lc, ev_Dc, ev_Yes, ev_Try1, ev_ret, ev_ok, ev_exc, ev_new, ev_nx, ev_bnd, ev_rd, at1_eq, at2_eq, at3_eq, aft_nx, aft_rt, aft_bk, aft_ct, out_rt, out_nx, trn_nx, trn_bk, trn_ct, trn_rt, tru_bl, asInt_int, add_int, addI_int, sub_int, ML.neg_int', ML.lt_int', ML.le_int', ML.gt_int', ML.ge_int', max_int, min_int, int_int, len_tup, len_lst, tpl_lst, tpl_tup, ML.sum_tup, sum_lst, all_lst, ix_row_tup, ix_row_lst, ML.eq_int, ML.ne_int, row_tup, row_lst, nv0, List.map_cons, List.map_nil, List.length_cons, List.length_nil, List.length_map, List.replicate_succ, List.replicate_zero, List.cons_append, List.nil_append, List.set_cons_zero, List.set_cons_succ, List.getElem?_cons_zero, List.getElem?_cons_succ, Option.join_some, Option.some.injEq, exists_eq_left', decide_eq_true_eq, Nat.zero_add, true_and, and_true, if_true, if_false, Bool.not_eq_true', Bool.false_eq_true, eq_ev (between_eq h), k]
  simp
theorem number_bad {X : Str → Dt → Sto → Prop} {Q : Dt → Sto → Prop} (h : Dt.plain d = true) (k : isB lo hi d = false) : Ev X (m_need_number [d, .int lo, .int hi] S) Q ↔ X "BadNumber" d S := by
  unfold m_need_number
  simp only [ev_def, ev_Then, ev_Put, ev_Set, ev_Rt, ev_Drop, ev_If, ev_B, ev_Not, ev_And, ev_Or, ev_AndV, ev_OrV, ev_NotV, ev_Chain, ev_m1, ev_m2, ev_mn, ev_cons, ev_nil, ev_var, ev_c, ev_P, ev_noP, ev_Sl, ev_New, ev_RepO, ev_call, ev_App, ev_mErr, ev_sNx, ev_Asg, ev_Aug, ev_Par2, ev_Par3, ev_For, ev_Walk, ev_Lc, ev_Dc, ev_Yes, ev_Try1, ev_ret, ev_ok, ev_exc, ev_new, ev_nx, ev_bnd, ev_rd, at1_eq, at2_eq, at3_eq, aft_nx, aft_rt, aft_bk, aft_ct, out_rt, out_nx, trn_nx, trn_bk, trn_ct, trn_rt, tru_bl, asInt_int, add_int, addI_int, sub_int, ML.neg_int', ML.lt_int', ML.le_int', ML.gt_int', ML.ge_int', max_int, min_int, int_int, len_tup, len_lst, tpl_lst, tpl_tup, ML.sum_tup, sum_lst, all_lst, ix_row_tup, ix_row_lst, ML.eq_int, ML.ne_int, row_tup, row_lst, nv0, List.map_cons, List.map_nil, List.length_cons, List.length_nil, List.length_map, List.replicate_succ, List.replicate_zero, List.cons_append, List.nil_append, List.set_cons_zero, List.set_cons_succ, List.getElem?_cons_zero, List.getElem?_cons_succ, Option.join_some, Option.some.injEq, exists_eq_left', decide_eq_true_eq, Nat.zero_add, true_and, and_true, if_true, if_false, Bool.not_eq_true', Bool.false_eq_true, eq_ev (between_eq h), k]
theorem areb_eq {g : List Int} (h : ∀ x ∈ g, lo ≤ x ∧ x ≤ hi) (hl : g.length ≤ 1000) : m_are_between [rowD g, .int lo, .int hi] S = .ok (.bl true) S := by
  refine ev_eq ?_
  unfold m_are_between
  simp only [ev_def, ev_Then, ev_Put, ev_Set, ev_Rt, ev_Drop, ev_If, ev_B, ev_Not, ev_And, ev_Or, ev_AndV, ev_OrV, ev_NotV, ev_Chain, ev_m1, ev_m2, ev_mn, ev_cons, ev_nil, ev_var, ev_c, ev_P, ev_noP, ev_Sl, ev_New, ev_RepO, ev_call, ev_App, ev_mErr, ev_sNx, ev_Asg, ev_Aug, ev_Par2, ev_Par3, ev_For, ev_Walk, ev_Lc, ev_Dc, ev_Yes, ev_Try1, ev_ret, ev_ok, ev_exc, ev_new, ev_nx, ev_bnd, ev_rd, at1_eq, at2_eq, at3_eq, aft_nx, aft_rt, aft_bk, aft_ct, out_rt, out_nx, trn_nx, trn_bk, trn_ct, trn_rt, tru_bl, asInt_int, add_int, addI_int, sub_int, ML.neg_int', ML.lt_int', ML.le_int', ML.gt_int', ML.ge_int', max_int, min_int, int_int, len_tup, len_lst, tpl_lst, tpl_tup, ML.sum_tup, sum_lst, all_lst, ix_row_tup, ix_row_lst, ML.eq_int, ML.ne_int, row_tup, row_lst, nv0, List.map_cons, List.map_nil, List.length_cons, List.length_nil, List.length_map, List.replicate_succ, List.replicate_zero, List.cons_append, List.nil_append, List.set_cons_zero, List.set_cons_succ, List.getElem?_cons_zero, List.getElem?_cons_succ, Option.join_some, Option.some.injEq, exists_eq_left', decide_eq_true_eq, Nat.zero_add, true_and, and_true, if_true, if_false, Bool.not_eq_true', Bool.false_eq_true, isi_tup _ ki_tt]
  refine ⟨_, rfl, ?_, ?_⟩
  · show (g.map Dt.int).length ≤ cap
    rw [List.length_map]; unfold cap; omega
  · refine ev_lcGo_pure (g := fun d => .bl (isB lo hi d)) (g.map Dt.int) (fun d hd => ?_) [] ?_
    · obtain ⟨x, hx, rfl⟩ := List.mem_map.mp hd
      refine ⟨_, rfl, ev_eq ?_⟩
      show Ev NoE (mCall 3 m_is_between (mCons (mVar 3) (mCons (mVar 1) (mCons (mVar 2) mNil))) [some (rowD g), some (.int lo), some (.int hi), some (.int x)] S) _
      simp only [ev_def, ev_Then, ev_Put, ev_Set, ev_Rt, ev_Drop, ev_If, ev_B, ev_Not, ev_And, ev_Or, ev_AndV, ev_OrV, ev_NotV, ev_Chain, ev_m1, ev_m2, ev_mn, ev_cons, ev_nil, ev_var, ev_c, ev_P, ev_noP, ev_Sl, ev_New, ev_RepO, ev_call, ev_App, ev_mErr, ev_sNx, ev_Asg, ev_Aug, ev_Par2, ev_Par3, ev_For, ev_Walk, ev_Lc, ev_Dc, ev_Yes, ev_Try1, ev_ret, ev_ok, ev_exc, ev_new, ev_nx, ev_bnd, ev_rd, at1_eq, at2_eq, at3_eq, aft_nx, aft_rt, aft_bk, aft_ct, out_rt, out_nx, trn_nx, trn_bk, trn_ct, trn_rt, tru_bl, asInt_int, add_int, addI_int, sub_int, ML.neg_int', ML.lt_int', ML.le_int', ML.gt_int', ML.ge_int', max_int, min_int, int_int, len_tup, len_lst, tpl_lst, tpl_tup, ML.sum_tup, sum_lst, all_lst, ix_row_tup, ix_row_lst, ML.eq_int, ML.ne_int, row_tup, row_lst, nv0, List.map_cons, List.map_nil, List.length_cons, List.length_nil, List.length_map, List.replicate_succ, List.replicate_zero, List.cons_append, List.nil_append, List.set_cons_zero, List.set_cons_succ, List.getElem?_cons_zero, List.getElem?_cons_succ, Option.join_some, Option.some.injEq, exists_eq_left', decide_eq_true_eq, Nat.zero_add, true_and, and_true, if_true, if_false, Bool.not_eq_true', Bool.false_eq_true, eq_ev (between_eq (d := .int x) rfl)]
    · have e : (g.map Dt.int).map (fun d => Dt.bl (isB lo hi d)) = (g.map fun x => isB lo hi (.int x)).map Dt.bl := by rw [List.map_map, List.map_map]; rfl
      refine ⟨_, (congrArg (fun l => fAll [.lst l] S) e).trans all_lst, ?_⟩
      simp only [ev_def, ev_Then, ev_Put, ev_Set, ev_Rt, ev_Drop, ev_If, ev_B, ev_Not, ev_And, ev_Or, ev_AndV, ev_OrV, ev_NotV, ev_Chain, ev_m1, ev_m2, ev_mn, ev_cons, ev_nil, ev_var, ev_c, ev_P, ev_noP, ev_Sl, ev_New, ev_RepO, ev_call, ev_App, ev_mErr, ev_sNx, ev_Asg, ev_Aug, ev_Par2, ev_Par3, ev_For, ev_Walk, ev_Lc, ev_Dc, ev_Yes, ev_Try1, ev_ret, ev_ok, ev_exc, ev_new, ev_nx, ev_bnd, ev_rd, at1_eq, at2_eq, at3_eq, aft_nx, aft_rt, aft_bk, aft_ct, out_rt, out_nx, trn_nx, trn_bk, trn_ct, trn_rt, tru_bl, asInt_int, add_int, addI_int, sub_int, ML.neg_int', ML.lt_int', ML.le_int', ML.gt_int', ML.ge_int', max_int, min_int, int_int, len_tup, len_lst, tpl_lst, tpl_tup, ML.sum_tup, sum_lst, all_lst, ix_row_tup, ix_row_lst, ML.eq_int, ML.ne_int, row_tup, row_lst, nv0, List.map_cons, List.map_nil, List.length_cons, List.length_nil, List.length_map, List.replicate_succ, List.replicate_zero, List.cons_append, List.nil_append, List.set_cons_zero, List.set_cons_succ, List.getElem?_cons_zero, List.getElem?_cons_succ, Option.join_some, Option.some.injEq, exists_eq_left', decide_eq_true_eq, Nat.zero_add, true_and, and_true, if_true, if_false, Bool.not_eq_true', Bool.false_eq_true]
      congr 1
      rw [List.all_map, List.all_eq_true]
      intro x hx
      have := h x hx
      simp [isB, this]
end
end Plain

set_option Elab.async false
set_option linter.all false
set_option maxRecDepth 100000
set_option maxHeartbeats 1000000
namespace Plain
open PySem PySem.Spec L2 ML Walk

theorem lc_true {X : Str → Dt → Sto → Prop} {ρ : Nv} {t : Tg} {me : Nv → Mo Dt} {items : List Dt} {S : Sto} {QL : List Dt → Sto → Prop} (h : ∀ d ∈ items, ∃ ρ1, t d ρ = some ρ1 ∧ me ρ1 S = .ok (.bl true) S) (q : QL ((items.map fun _ => true).map Dt.bl) S) : Ev X (lcGo anyGd t mYes me ρ [] items S) QL :=
  ev_lcGo_pure (g := fun _ => .bl true) items h [] (by rw [List.nil_append]; rw [List.map_map] at q; exact q)
theorem all_trues {α : Type} (l : List α) : (l.map fun _ => true).all id = true := by rw [List.all_map, List.all_eq_true]; intro _ _; rfl
/-! ### names -/
def lets : List Nat := ("abcdefghijklmnopqrstuvwxyz" : Str).cps.toList
def signs : Str := ("abcdefghijklmnopqrstuvwxyz" : Str) ++ ("0123456789" : Str)
def nameOk (s : Str) : Bool := decide (1 ≤ s.length) && decide (s.length ≤ 8) && (match s.cps.toList with | [] => false | c :: _ => decide (c ∈ lets)) && s.cps.toList.all fun c => decide (c ∈ signs.cps.toList)
theorem add_str {x y : Str} {S : Sto} (h : x.length + y.length ≤ cap) : bAdd (.str x) (.str y) S = some (.str (x ++ y)) := if_pos h
theorem ni_sign {c : Nat} {z : Str} {S : Sto} : cNi (.str ⟨#[c]⟩) (.str z) S = some (.bl (!decide (c ∈ z.cps.toList))) := rfl
theorem in_sign {c : Nat} {z : Str} {S : Sto} : cIn (.str ⟨#[c]⟩) (.str z) S = some (.bl (decide (c ∈ z.cps.toList))) := rfl
section
variable {S : Sto} {s : Str}
theorem name_eq (h : nameOk s = true) : m_is_name [.str s] S = .ok (.bl true) S := by
  unfold nameOk at h
  simp only [Bool.and_eq_true, decide_eq_true_eq] at h
  obtain ⟨⟨⟨h1, h2⟩, h3⟩, h4⟩ := h
  have hc : s.length ≤ cap := by unfold cap; omega
  cases q : s.cps.toList with
  | nil => rw [q] at h3; cases h3
  | cons c r =>
    rw [q] at h3
    have h3 : c ∈ lets := of_decide_eq_true h3
    have hix : gIx (.str s) (.int 0) S = some (.str ⟨#[c]⟩) := ix_str hc (by rw [q]; exact (atI_pos (Int.le_refl 0) (by simp) : atI (c :: r) 0 = some c))
    refine ev_eq ?_
    unfold m_is_name
    have e1 : decide ((1 : Int) ≤ (s.length : Int)) = true := decide_eq_true (by omega)
    have e2 : decide ((s.length : Int) ≤ 8) = true := decide_eq_true (by omega)
    have e3 : decide (c ∈ Array.toList (Str.cps "abcdefghijklmnopqrstuvwxyz")) = true := decide_eq_true h3
    simp only [ev_def, ev_Then, ev_Put, ev_Set, ev_Rt, ev_Drop, ev_If, ev_B, ev_Not, ev_And, ev_Or, ev_AndV, ev_OrV, ev_NotV, ev_Chain, ev_m1, ev_m2, ev_mn, ev_cons, ev_nil, ev_var, ev_c, ev_P, ev_noP, ev_Sl, ev_New, ev_RepO, ev_call, ev_App, ev_mErr, ev_sNx, ev_Asg, ev_Aug, ev_Par2, ev_Par3, ev_For, ev_Walk, ev_Lc, ev_Dc, ev_Yes, ev_Try1, ev_ret, ev_ok, ev_exc, ev_new, ev_nx, ev_bnd, ev_rd, at1_eq, at2_eq, at3_eq, aft_nx, aft_rt, aft_bk, aft_ct, out_rt, out_nx, trn_nx, trn_bk, trn_ct, trn_rt, tru_bl, asInt_int, add_int, addI_int, sub_int, ML.neg_int', ML.lt_int', ML.le_int', ML.gt_int', ML.ge_int', max_int, min_int, int_int, len_tup, len_lst, tpl_lst, tpl_tup, ML.sum_tup, sum_lst, all_lst, ix_row_tup, ix_row_lst, ML.eq_int, ML.ne_int, row_tup, row_lst, nv0, List.map_cons, List.map_nil, List.length_cons, List.length_nil, List.length_map, List.replicate_succ, List.replicate_zero, List.cons_append, List.nil_append, List.set_cons_zero, List.set_cons_succ, List.getElem?_cons_zero, List.getElem?_cons_succ, Option.join_some, Option.some.injEq, exists_eq_left', decide_eq_true_eq, Nat.zero_add, true_and, and_true, if_true, if_false, Bool.not_eq_true', Bool.false_eq_true, isi_str _ ki_ss, len_str hc, hix, ni_sign, e1, e2, e3, Bool.not_true]
    refine ⟨_, rfl, ?_, ?_⟩
    · show (signsOf s).length ≤ cap
      unfold signsOf
      rw [List.length_map]
      exact hc
    · refine lc_true (fun d hd => ?_) ?_
      · obtain ⟨x, hx, rfl⟩ := List.mem_map.mp hd
        refine ⟨_, rfl, ev_eq ?_⟩
        have hx2 := List.all_eq_true.mp h4 x hx
        show Ev NoE (m2 cIn (mVar 1) (m2 bAdd (mC (.str "abcdefghijklmnopqrstuvwxyz")) (mC (.str "0123456789"))) [some (.str s), some (.str ⟨#[x]⟩)] S) _
        have e4 : decide (x ∈ Array.toList (Str.cps (("abcdefghijklmnopqrstuvwxyz" : Str) ++ ("0123456789" : Str)))) = true := hx2
        simp only [ev_def, ev_Then, ev_Put, ev_Set, ev_Rt, ev_Drop, ev_If, ev_B, ev_Not, ev_And, ev_Or, ev_AndV, ev_OrV, ev_NotV, ev_Chain, ev_m1, ev_m2, ev_mn, ev_cons, ev_nil, ev_var, ev_c, ev_P, ev_noP, ev_Sl, ev_New, ev_RepO, ev_call, ev_App, ev_mErr, ev_sNx, ev_Asg, ev_Aug, ev_Par2, ev_Par3, ev_For, ev_Walk, ev_Lc, ev_Dc, ev_Yes, ev_Try1, ev_ret, ev_ok, ev_exc, ev_new, ev_nx, ev_bnd, ev_rd, at1_eq, at2_eq, at3_eq, aft_nx, aft_rt, aft_bk, aft_ct, out_rt, out_nx, trn_nx, trn_bk, trn_ct, trn_rt, tru_bl, asInt_int, add_int, addI_int, sub_int, ML.neg_int', ML.lt_int', ML.le_int', ML.gt_int', ML.ge_int', max_int, min_int, int_int, len_tup, len_lst, tpl_lst, tpl_tup, ML.sum_tup, sum_lst, all_lst, ix_row_tup, ix_row_lst, ML.eq_int, ML.ne_int, row_tup, row_lst, nv0, List.map_cons, List.map_nil, List.length_cons, List.length_nil, List.length_map, List.replicate_succ, List.replicate_zero, List.cons_append, List.nil_append, List.set_cons_zero, List.set_cons_succ, List.getElem?_cons_zero, List.getElem?_cons_succ, Option.join_some, Option.some.injEq, exists_eq_left', decide_eq_true_eq, Nat.zero_add, true_and, and_true, if_true, if_false, Bool.not_eq_true', Bool.false_eq_true, add_str (x := "abcdefghijklmnopqrstuvwxyz") (y := "0123456789") (by decide), in_sign, e4]
      · simp only [ev_def, ev_Then, ev_Put, ev_Set, ev_Rt, ev_Drop, ev_If, ev_B, ev_Not, ev_And, ev_Or, ev_AndV, ev_OrV, ev_NotV, ev_Chain, ev_m1, ev_m2, ev_mn, ev_cons, ev_nil, ev_var, ev_c, ev_P, ev_noP, ev_Sl, ev_New, ev_RepO, ev_call, ev_App, ev_mErr, ev_sNx, ev_Asg, ev_Aug, ev_Par2, ev_Par3, ev_For, ev_Walk, ev_Lc, ev_Dc, ev_Yes, ev_Try1, ev_ret, ev_ok, ev_exc, ev_new, ev_nx, ev_bnd, ev_rd, at1_eq, at2_eq, at3_eq, aft_nx, aft_rt, aft_bk, aft_ct, out_rt, out_nx, trn_nx, trn_bk, trn_ct, trn_rt, tru_bl, asInt_int, add_int, addI_int, sub_int, ML.neg_int', ML.lt_int', ML.le_int', ML.gt_int', ML.ge_int', max_int, min_int, int_int, len_tup, len_lst, tpl_lst, tpl_tup, ML.sum_tup, sum_lst, all_lst, ix_row_tup, ix_row_lst, ML.eq_int, ML.ne_int, row_tup, row_lst, nv0, List.map_cons, List.map_nil, List.length_cons, List.length_nil, List.length_map, List.replicate_succ, List.replicate_zero, List.cons_append, List.nil_append, List.set_cons_zero, List.set_cons_succ, List.getElem?_cons_zero, List.getElem?_cons_succ, Option.join_some, Option.some.injEq, exists_eq_left', decide_eq_true_eq, Nat.zero_add, true_and, and_true, if_true, if_false, Bool.not_eq_true', Bool.false_eq_true, all_trues]
theorem task_eq {g : List Int} (h : nameOk s = true) (h1 : 1 ≤ g.length) (h2 : g.length ≤ 24) (h3 : ∀ x ∈ g, 1 ≤ x ∧ x ≤ 99) : m_is_task [.tup [.str s, rowD g]] S = .ok (.bl true) S := by
  refine ev_eq ?_
  unfold m_is_task
  have a0 : atI [Dt.str s, rowD g] 0 = some (.str s) := rfl
  have a1 : atI [Dt.str s, rowD g] 1 = some (rowD g) := rfl
  have e1 : decide ((1 : Int) ≤ (g.length : Int)) = true := decide_eq_true (by omega)
  have e2 : decide ((g.length : Int) ≤ 24) = true := decide_eq_true (by omega)
  simp only [ev_def, ev_Then, ev_Put, ev_Set, ev_Rt, ev_Drop, ev_If, ev_B, ev_Not, ev_And, ev_Or, ev_AndV, ev_OrV, ev_NotV, ev_Chain, ev_m1, ev_m2, ev_mn, ev_cons, ev_nil, ev_var, ev_c, ev_P, ev_noP, ev_Sl, ev_New, ev_RepO, ev_call, ev_App, ev_mErr, ev_sNx, ev_Asg, ev_Aug, ev_Par2, ev_Par3, ev_For, ev_Walk, ev_Lc, ev_Dc, ev_Yes, ev_Try1, ev_ret, ev_ok, ev_exc, ev_new, ev_nx, ev_bnd, ev_rd, at1_eq, at2_eq, at3_eq, aft_nx, aft_rt, aft_bk, aft_ct, out_rt, out_nx, trn_nx, trn_bk, trn_ct, trn_rt, tru_bl, asInt_int, add_int, addI_int, sub_int, ML.neg_int', ML.lt_int', ML.le_int', ML.gt_int', ML.ge_int', max_int, min_int, int_int, len_tup, len_lst, tpl_lst, tpl_tup, ML.sum_tup, sum_lst, all_lst, ix_row_tup, ix_row_lst, ML.eq_int, ML.ne_int, row_tup, row_lst, nv0, List.map_cons, List.map_nil, List.length_cons, List.length_nil, List.length_map, List.replicate_succ, List.replicate_zero, List.cons_append, List.nil_append, List.set_cons_zero, List.set_cons_succ, List.getElem?_cons_zero, List.getElem?_cons_succ, Option.join_some, Option.some.injEq, exists_eq_left', decide_eq_true_eq, Nat.zero_add, true_and, and_true, if_true, if_false, Bool.not_eq_true', Bool.false_eq_true, a0, a1, eq_ev tuple_eq, eq_ev (name_eq h), eq_ev (areb_eq h3 (by omega)), e1, e2]
  simp
theorem line_eq {l : Ln} (o : LnOk l) (ha : nameOk l.a = true) (hb : nameOk l.b = true) : m_is_line [l.dt] S = .ok (.bl true) S := by
  refine ev_eq ?_
  unfold m_is_line Ln.dt
  have a0 : ∀ {a b c d e : Dt}, atI [a, b, c, d, e] 0 = some a := rfl
  have a1 : ∀ {a b c d e : Dt}, atI [a, b, c, d, e] 1 = some b := rfl
  have f1 := o.g.few
  have f2 := o.t.few
  have e1 : isB 0 99999 (.int l.st) = true := by simp [isB, o.s0, o.s1]
  simp only [ev_def, ev_Then, ev_Put, ev_Set, ev_Rt, ev_Drop, ev_If, ev_B, ev_Not, ev_And, ev_Or, ev_AndV, ev_OrV, ev_NotV, ev_Chain, ev_m1, ev_m2, ev_mn, ev_cons, ev_nil, ev_var, ev_c, ev_P, ev_noP, ev_Sl, ev_New, ev_RepO, ev_call, ev_App, ev_mErr, ev_sNx, ev_Asg, ev_Aug, ev_Par2, ev_Par3, ev_For, ev_Walk, ev_Lc, ev_Dc, ev_Yes, ev_Try1, ev_ret, ev_ok, ev_exc, ev_new, ev_nx, ev_bnd, ev_rd, at1_eq, at2_eq, at3_eq, aft_nx, aft_rt, aft_bk, aft_ct, out_rt, out_nx, trn_nx, trn_bk, trn_ct, trn_rt, tru_bl, asInt_int, add_int, addI_int, sub_int, ML.neg_int', ML.lt_int', ML.le_int', ML.gt_int', ML.ge_int', max_int, min_int, int_int, len_tup, len_lst, tpl_lst, tpl_tup, ML.sum_tup, sum_lst, all_lst, ix_row_tup, ix_row_lst, ML.eq_int, ML.ne_int, row_tup, row_lst, nv0, List.map_cons, List.map_nil, List.length_cons, List.length_nil, List.length_map, List.replicate_succ, List.replicate_zero, List.cons_append, List.nil_append, List.set_cons_zero, List.set_cons_succ, List.getElem?_cons_zero, List.getElem?_cons_succ, Option.join_some, Option.some.injEq, exists_eq_left', decide_eq_true_eq, Nat.zero_add, true_and, and_true, if_true, if_false, Bool.not_eq_true', Bool.false_eq_true, a0, a1, at2', at3', at4', eq_ev tuple_eq, eq_ev (name_eq ha), eq_ev (name_eq hb), eq_ev (areb_eq (lo := 0) (hi := 9) (fun x hx => ⟨o.g.ge x hx, o.g.le x hx⟩) (by omega)), eq_ev (areb_eq (lo := 0) (hi := 9) (fun x hx => ⟨o.t.ge x hx, o.t.le x hx⟩) (by omega)), eq_ev (between_eq (d := .int l.st) rfl), e1]
  simp
end
end Plain

set_option Elab.async false
set_option linter.all false
set_option maxRecDepth 100000
set_option maxHeartbeats 1000000
namespace Plain
open PySem PySem.Spec L2 ML Walk

structure Gr where
  a : Str
  b : Str
  p : Nat
  q : Nat
  ls : List Ln
def ones (n : Nat) : Dt := rowD (List.replicate n 1)
def Gr.dt (G : Gr) : Dt := .tup [.tup [.tup [.str G.a, ones G.p], .tup [.str G.b, ones G.q]], .tup (G.ls.map Ln.dt)]
structure GrOk (G : Gr) : Prop where
  na : nameOk G.a = true
  nb : nameOk G.b = true
  ne : G.a ≠ G.b
  p1 : 1 ≤ G.p
  p2 : G.p ≤ 24
  q1 : 1 ≤ G.q
  q2 : G.q ≤ 24
  few : G.ls.length ≤ 60
  ok : ∀ l ∈ G.ls, LnOk l
  from_ : ∀ l ∈ G.ls, (l.a = G.a ∧ l.g.length = G.p) ∨ (l.a = G.b ∧ l.g.length = G.q)
  to_ : ∀ l ∈ G.ls, (l.b = G.a ∧ l.t.length = G.p) ∨ (l.b = G.b ∧ l.t.length = G.q)
section
variable {G : Gr} {S : Sto}
theorem at0p {α : Type} {a b : α} : atI [a, b] 0 = some a := rfl
theorem at1p {α : Type} {a b : α} : atI [a, b] 1 = some b := rfl
theorem ones_task (n : Nat) (h1 : 1 ≤ n) (h2 : n ≤ 24) {s : Str} (hs : nameOk s = true) : m_is_task [.tup [.str s, ones n]] S = .ok (.bl true) S :=
  task_eq hs (by simpa using h1) (by simpa using h2) fun x hx => by
    obtain ⟨_, rfl⟩ := List.mem_replicate.mp hx
    decide
theorem line_of (o : GrOk G) {l : Ln} (hl : l ∈ G.ls) : m_is_line [l.dt] S = .ok (.bl true) S := by
  refine line_eq (o.ok l hl) ?_ ?_
  · rcases o.from_ l hl with ⟨e, _⟩ | ⟨e, _⟩
    · rw [e]; exact o.na
    · rw [e]; exact o.nb
  · rcases o.to_ l hl with ⟨e, _⟩ | ⟨e, _⟩
    · rw [e]; exact o.na
    · rw [e]; exact o.nb
theorem form_eq (o : GrOk G) : m_has_graph_form [G.dt] S = .ok (.bl true) S := by
  refine ev_eq ?_
  unfold m_has_graph_form Gr.dt
  have e1 : decide (((G.ls.map Ln.dt).length : Int) ≤ 60) = true := decide_eq_true (by have := o.few; simp; omega)
  have e2 : decide ((0 : Int) ≤ ((G.ls.map Ln.dt).length : Int)) = true := decide_eq_true (by omega)
  simp only [ev_def, ev_Then, ev_Put, ev_Set, ev_Rt, ev_Drop, ev_If, ev_B, ev_Not, ev_And, ev_Or, ev_AndV, ev_OrV, ev_NotV, ev_Chain, ev_m1, ev_m2, ev_mn, ev_cons, ev_nil, ev_var, ev_c, ev_P, ev_noP, ev_Sl, ev_New, ev_RepO, ev_call, ev_App, ev_mErr, ev_sNx, ev_Asg, ev_Aug, ev_Par2, ev_Par3, ev_For, ev_Walk, ev_Lc, ev_Dc, ev_Yes, ev_Try1, ev_ret, ev_ok, ev_exc, ev_new, ev_nx, ev_bnd, ev_rd, at1_eq, at2_eq, at3_eq, aft_nx, aft_rt, aft_bk, aft_ct, out_rt, out_nx, trn_nx, trn_bk, trn_ct, trn_rt, tru_bl, asInt_int, add_int, addI_int, sub_int, ML.neg_int', ML.lt_int', ML.le_int', ML.gt_int', ML.ge_int', max_int, min_int, int_int, len_tup, len_lst, tpl_lst, tpl_tup, ML.sum_tup, sum_lst, all_lst, ix_row_tup, ix_row_lst, ML.eq_int, ML.ne_int, row_tup, row_lst, nv0, List.map_cons, List.map_nil, List.length_cons, List.length_nil, List.length_map, List.replicate_succ, List.replicate_zero, List.cons_append, List.nil_append, List.set_cons_zero, List.set_cons_succ, List.getElem?_cons_zero, List.getElem?_cons_succ, Option.join_some, Option.some.injEq, exists_eq_left', decide_eq_true_eq, Nat.zero_add, true_and, and_true, if_true, if_false, Bool.not_eq_true', Bool.false_eq_true, Bool.true_eq_false, at0p, at1p, eq_ev tuple_eq] at e1 e2 ⊢
  rw [if_neg (by decide), if_neg (by decide), if_neg (by simp [e1])]
  refine ⟨_, rfl, by show 2 ≤ cap; decide, ?_⟩
  refine lc_true (fun d hd => ?_) ?_
  · rcases List.mem_cons.mp hd with rfl | hd
    · refine ⟨_, rfl, ev_eq ?_⟩
      show Ev NoE (mCall 1 m_is_task (mCons (mVar 2) mNil) [some _, none, some (.tup [.str G.a, ones G.p])] S) _
      simp only [ev_def, ev_Then, ev_Put, ev_Set, ev_Rt, ev_Drop, ev_If, ev_B, ev_Not, ev_And, ev_Or, ev_AndV, ev_OrV, ev_NotV, ev_Chain, ev_m1, ev_m2, ev_mn, ev_cons, ev_nil, ev_var, ev_c, ev_P, ev_noP, ev_Sl, ev_New, ev_RepO, ev_call, ev_App, ev_mErr, ev_sNx, ev_Asg, ev_Aug, ev_Par2, ev_Par3, ev_For, ev_Walk, ev_Lc, ev_Dc, ev_Yes, ev_Try1, ev_ret, ev_ok, ev_exc, ev_new, ev_nx, ev_bnd, ev_rd, at1_eq, at2_eq, at3_eq, aft_nx, aft_rt, aft_bk, aft_ct, out_rt, out_nx, trn_nx, trn_bk, trn_ct, trn_rt, tru_bl, asInt_int, add_int, addI_int, sub_int, ML.neg_int', ML.lt_int', ML.le_int', ML.gt_int', ML.ge_int', max_int, min_int, int_int, len_tup, len_lst, tpl_lst, tpl_tup, ML.sum_tup, sum_lst, all_lst, ix_row_tup, ix_row_lst, ML.eq_int, ML.ne_int, row_tup, row_lst, nv0, List.map_cons, List.map_nil, List.length_cons, List.length_nil, List.length_map, List.replicate_succ, List.replicate_zero, List.cons_append, List.nil_append, List.set_cons_zero, List.set_cons_succ, List.getElem?_cons_zero, List.getElem?_cons_succ, Option.join_some, Option.some.injEq, exists_eq_left', decide_eq_true_eq, Nat.zero_add, true_and, and_true, if_true, if_false, Bool.not_eq_true', Bool.false_eq_true, Bool.true_eq_false, eq_ev (ones_task G.p o.p1 o.p2 o.na)]
    · rcases List.mem_cons.mp hd with rfl | hd
      · refine ⟨_, rfl, ev_eq ?_⟩
        show Ev NoE (mCall 1 m_is_task (mCons (mVar 2) mNil) [some _, none, some (.tup [.str G.b, ones G.q])] S) _
        simp only [ev_def, ev_Then, ev_Put, ev_Set, ev_Rt, ev_Drop, ev_If, ev_B, ev_Not, ev_And, ev_Or, ev_AndV, ev_OrV, ev_NotV, ev_Chain, ev_m1, ev_m2, ev_mn, ev_cons, ev_nil, ev_var, ev_c, ev_P, ev_noP, ev_Sl, ev_New, ev_RepO, ev_call, ev_App, ev_mErr, ev_sNx, ev_Asg, ev_Aug, ev_Par2, ev_Par3, ev_For, ev_Walk, ev_Lc, ev_Dc, ev_Yes, ev_Try1, ev_ret, ev_ok, ev_exc, ev_new, ev_nx, ev_bnd, ev_rd, at1_eq, at2_eq, at3_eq, aft_nx, aft_rt, aft_bk, aft_ct, out_rt, out_nx, trn_nx, trn_bk, trn_ct, trn_rt, tru_bl, asInt_int, add_int, addI_int, sub_int, ML.neg_int', ML.lt_int', ML.le_int', ML.gt_int', ML.ge_int', max_int, min_int, int_int, len_tup, len_lst, tpl_lst, tpl_tup, ML.sum_tup, sum_lst, all_lst, ix_row_tup, ix_row_lst, ML.eq_int, ML.ne_int, row_tup, row_lst, nv0, List.map_cons, List.map_nil, List.length_cons, List.length_nil, List.length_map, List.replicate_succ, List.replicate_zero, List.cons_append, List.nil_append, List.set_cons_zero, List.set_cons_succ, List.getElem?_cons_zero, List.getElem?_cons_succ, Option.join_some, Option.some.injEq, exists_eq_left', decide_eq_true_eq, Nat.zero_add, true_and, and_true, if_true, if_false, Bool.not_eq_true', Bool.false_eq_true, Bool.true_eq_false, eq_ev (ones_task G.q o.q1 o.q2 o.nb)]
      · cases hd
  · simp only [ev_def, ev_Then, ev_Put, ev_Set, ev_Rt, ev_Drop, ev_If, ev_B, ev_Not, ev_And, ev_Or, ev_AndV, ev_OrV, ev_NotV, ev_Chain, ev_m1, ev_m2, ev_mn, ev_cons, ev_nil, ev_var, ev_c, ev_P, ev_noP, ev_Sl, ev_New, ev_RepO, ev_call, ev_App, ev_mErr, ev_sNx, ev_Asg, ev_Aug, ev_Par2, ev_Par3, ev_For, ev_Walk, ev_Lc, ev_Dc, ev_Yes, ev_Try1, ev_ret, ev_ok, ev_exc, ev_new, ev_nx, ev_bnd, ev_rd, at1_eq, at2_eq, at3_eq, aft_nx, aft_rt, aft_bk, aft_ct, out_rt, out_nx, trn_nx, trn_bk, trn_ct, trn_rt, tru_bl, asInt_int, add_int, addI_int, sub_int, ML.neg_int', ML.lt_int', ML.le_int', ML.gt_int', ML.ge_int', max_int, min_int, int_int, len_tup, len_lst, tpl_lst, tpl_tup, ML.sum_tup, sum_lst, all_lst, ix_row_tup, ix_row_lst, ML.eq_int, ML.ne_int, row_tup, row_lst, nv0, List.map_cons, List.map_nil, List.length_cons, List.length_nil, List.length_map, List.replicate_succ, List.replicate_zero, List.cons_append, List.nil_append, List.set_cons_zero, List.set_cons_succ, List.getElem?_cons_zero, List.getElem?_cons_succ, Option.join_some, Option.some.injEq, exists_eq_left', decide_eq_true_eq, Nat.zero_add, true_and, and_true, if_true, if_false, Bool.not_eq_true', Bool.false_eq_true, Bool.true_eq_false, all_trues]
    refine ⟨.bl true, rfl, true, rfl, ?_⟩
    rw [if_neg (by decide)]
    refine ⟨_, rfl, by show (G.ls.map Ln.dt).length ≤ cap; rw [List.length_map]; have := o.few; unfold cap; omega, ?_⟩
    refine lc_true (fun d hd => ?_) ?_
    · obtain ⟨l, hl, rfl⟩ := List.mem_map.mp hd
      refine ⟨_, rfl, ev_eq ?_⟩
      show Ev NoE (mCall 1 m_is_line (mCons (mVar 1) mNil) [some _, some l.dt, none] S) _
      simp only [ev_def, ev_Then, ev_Put, ev_Set, ev_Rt, ev_Drop, ev_If, ev_B, ev_Not, ev_And, ev_Or, ev_AndV, ev_OrV, ev_NotV, ev_Chain, ev_m1, ev_m2, ev_mn, ev_cons, ev_nil, ev_var, ev_c, ev_P, ev_noP, ev_Sl, ev_New, ev_RepO, ev_call, ev_App, ev_mErr, ev_sNx, ev_Asg, ev_Aug, ev_Par2, ev_Par3, ev_For, ev_Walk, ev_Lc, ev_Dc, ev_Yes, ev_Try1, ev_ret, ev_ok, ev_exc, ev_new, ev_nx, ev_bnd, ev_rd, at1_eq, at2_eq, at3_eq, aft_nx, aft_rt, aft_bk, aft_ct, out_rt, out_nx, trn_nx, trn_bk, trn_ct, trn_rt, tru_bl, asInt_int, add_int, addI_int, sub_int, ML.neg_int', ML.lt_int', ML.le_int', ML.gt_int', ML.ge_int', max_int, min_int, int_int, len_tup, len_lst, tpl_lst, tpl_tup, ML.sum_tup, sum_lst, all_lst, ix_row_tup, ix_row_lst, ML.eq_int, ML.ne_int, row_tup, row_lst, nv0, List.map_cons, List.map_nil, List.length_cons, List.length_nil, List.length_map, List.replicate_succ, List.replicate_zero, List.cons_append, List.nil_append, List.set_cons_zero, List.set_cons_succ, List.getElem?_cons_zero, List.getElem?_cons_succ, Option.join_some, Option.some.injEq, exists_eq_left', decide_eq_true_eq, Nat.zero_add, true_and, and_true, if_true, if_false, Bool.not_eq_true', Bool.false_eq_true, Bool.true_eq_false, eq_ev (line_of o hl)]
    · simp only [ev_def, ev_Then, ev_Put, ev_Set, ev_Rt, ev_Drop, ev_If, ev_B, ev_Not, ev_And, ev_Or, ev_AndV, ev_OrV, ev_NotV, ev_Chain, ev_m1, ev_m2, ev_mn, ev_cons, ev_nil, ev_var, ev_c, ev_P, ev_noP, ev_Sl, ev_New, ev_RepO, ev_call, ev_App, ev_mErr, ev_sNx, ev_Asg, ev_Aug, ev_Par2, ev_Par3, ev_For, ev_Walk, ev_Lc, ev_Dc, ev_Yes, ev_Try1, ev_ret, ev_ok, ev_exc, ev_new, ev_nx, ev_bnd, ev_rd, at1_eq, at2_eq, at3_eq, aft_nx, aft_rt, aft_bk, aft_ct, out_rt, out_nx, trn_nx, trn_bk, trn_ct, trn_rt, tru_bl, asInt_int, add_int, addI_int, sub_int, ML.neg_int', ML.lt_int', ML.le_int', ML.gt_int', ML.ge_int', max_int, min_int, int_int, len_tup, len_lst, tpl_lst, tpl_tup, ML.sum_tup, sum_lst, all_lst, ix_row_tup, ix_row_lst, ML.eq_int, ML.ne_int, row_tup, row_lst, nv0, List.map_cons, List.map_nil, List.length_cons, List.length_nil, List.length_map, List.replicate_succ, List.replicate_zero, List.cons_append, List.nil_append, List.set_cons_zero, List.set_cons_succ, List.getElem?_cons_zero, List.getElem?_cons_succ, Option.join_some, Option.some.injEq, exists_eq_left', decide_eq_true_eq, Nat.zero_add, true_and, and_true, if_true, if_false, Bool.not_eq_true', Bool.false_eq_true, Bool.true_eq_false, all_trues]
theorem orE2_l {f g : Dt → Dt → Sto → Option Dt} {d e x : Dt} (h : f d e S = some x) : orElse2 f g d e S = some x := by
  unfold orElse2
  rw [h]
theorem orE2_r {f g : Dt → Dt → Sto → Option Dt} {d e : Dt} (h : f d e S = none) : orElse2 f g d e S = g d e S := by
  unfold orElse2
  rw [h]
def tkey : Dt → Key
  | .tup (.str s :: _) => .inr s
  | _ => .inl 0
def tlen : Dt → Dt
  | .tup [_, .tup xs] => .int xs.length
  | _ => .non
def thd : Dt → Dt
  | .tup (s :: _) => s
  | _ => .non
def phD (G : Gr) : Dt := .dct [.inr G.a, .inr G.b] [.int G.p, .int G.q]
theorem ph_at (o : GrOk G) {x : Str} {n : Nat} (h : (x = G.a ∧ n = G.p) ∨ (x = G.b ∧ n = G.q)) : look [.inr G.a, .inr G.b] [.int G.p, .int G.q] (.inr x) = some (.int n) := by
  rcases h with ⟨rfl, rfl⟩ | ⟨rfl, rfl⟩
  · show (if (Sum.inr G.a : Key) = Sum.inr G.a then some (Dt.int G.p) else _) = _
    rw [if_pos rfl]
  · show (if (Sum.inr G.a : Key) = Sum.inr G.b then some (Dt.int G.p) else if (Sum.inr G.b : Key) = Sum.inr G.b then some (Dt.int G.q) else none) = _
    rw [if_neg (fun z => o.ne (Sum.inr.inj z)), if_pos rfl]
theorem ph_in (o : GrOk G) {x : Str} {n : Nat} (h : (x = G.a ∧ n = G.p) ∨ (x = G.b ∧ n = G.q)) : cNi (.str x) (phD G) S = some (.bl false) := by
  have e : inDic true (.str x) (phD G) S = some (.bl false) := by
    show some (Dt.bl (!(look [.inr G.a, .inr G.b] [.int G.p, .int G.q] (.inr x)).isSome)) = _
    rw [ph_at o h]; rfl
  exact (orE2_r rfl).trans (orE2_l e)
theorem ph_ix (o : GrOk G) {x : Str} {n : Nat} (h : (x = G.a ∧ n = G.p) ∨ (x = G.b ∧ n = G.q)) : gIx (phD G) (.str x) S = some (.int n) := ix_dct rfl (fun _ z => by cases (show Dt.dct _ _ = Dt.str _ from z)) (ph_at o h)
theorem fits_eq (o : GrOk G) {l : Ln} (hl : l ∈ G.ls) : m_fits [G.dt, l.dt] S = .ok (.bl true) S := by
  refine ev_eq ?_
  unfold m_fits
  have gd : gIx G.dt (.int 0) S = some (.tup [.tup [.str G.a, ones G.p], .tup [.str G.b, ones G.q]]) := by
    unfold Gr.dt
    rw [ix_row_tup]; rfl
  simp only [ev_def, ev_Then, ev_Put, ev_Set, ev_Rt, ev_Drop, ev_If, ev_B, ev_Not, ev_And, ev_Or, ev_AndV, ev_OrV, ev_NotV, ev_Chain, ev_m1, ev_m2, ev_mn, ev_cons, ev_nil, ev_var, ev_c, ev_P, ev_noP, ev_Sl, ev_New, ev_RepO, ev_call, ev_App, ev_mErr, ev_sNx, ev_Asg, ev_Aug, ev_Par2, ev_Par3, ev_For, ev_Walk, ev_Lc, ev_Dc, ev_Yes, ev_Try1, ev_ret, ev_ok, ev_exc, ev_new, ev_nx, ev_bnd, ev_rd, at1_eq, at2_eq, at3_eq, aft_nx, aft_rt, aft_bk, aft_ct, out_rt, out_nx, trn_nx, trn_bk, trn_ct, trn_rt, tru_bl, asInt_int, add_int, addI_int, sub_int, ML.neg_int', ML.lt_int', ML.le_int', ML.gt_int', ML.ge_int', max_int, min_int, int_int, len_tup, len_lst, tpl_lst, tpl_tup, ML.sum_tup, sum_lst, all_lst, ix_row_tup, ix_row_lst, ML.eq_int, ML.ne_int, row_tup, row_lst, nv0, List.map_cons, List.map_nil, List.length_cons, List.length_nil, List.length_map, List.replicate_succ, List.replicate_zero, List.cons_append, List.nil_append, List.set_cons_zero, List.set_cons_succ, List.getElem?_cons_zero, List.getElem?_cons_succ, Option.join_some, Option.some.injEq, exists_eq_left', decide_eq_true_eq, Nat.zero_add, true_and, and_true, if_true, if_false, Bool.not_eq_true', Bool.false_eq_true, Bool.true_eq_false, gd]
  refine ⟨_, rfl, by show 2 ≤ cap; decide, ?_⟩
  refine ev_dcGo_pure (gk := tkey) (g := tlen) _ _ _ (fun d hd => ?_) ?_
  · have h2 : ∃ (s : Str) (n : Nat), d = .tup [.str s, ones n] := by
      rcases List.mem_cons.mp hd with rfl | hd
      · exact ⟨_, _, rfl⟩
      · rcases List.mem_cons.mp hd with rfl | hd
        · exact ⟨_, _, rfl⟩
        · cases hd
    obtain ⟨s, n, rfl⟩ := h2
    refine ⟨_, .str s, rfl, ev_eq ?_, ev_eq ?_, rfl⟩
    · show Ev NoE (m2 gIx (mVar 3) (mC (.int 0)) [some G.dt, some l.dt, none, some (.tup [.str s, ones n])] S) _
      simp only [ev_def, ev_Then, ev_Put, ev_Set, ev_Rt, ev_Drop, ev_If, ev_B, ev_Not, ev_And, ev_Or, ev_AndV, ev_OrV, ev_NotV, ev_Chain, ev_m1, ev_m2, ev_mn, ev_cons, ev_nil, ev_var, ev_c, ev_P, ev_noP, ev_Sl, ev_New, ev_RepO, ev_call, ev_App, ev_mErr, ev_sNx, ev_Asg, ev_Aug, ev_Par2, ev_Par3, ev_For, ev_Walk, ev_Lc, ev_Dc, ev_Yes, ev_Try1, ev_ret, ev_ok, ev_exc, ev_new, ev_nx, ev_bnd, ev_rd, at1_eq, at2_eq, at3_eq, aft_nx, aft_rt, aft_bk, aft_ct, out_rt, out_nx, trn_nx, trn_bk, trn_ct, trn_rt, tru_bl, asInt_int, add_int, addI_int, sub_int, ML.neg_int', ML.lt_int', ML.le_int', ML.gt_int', ML.ge_int', max_int, min_int, int_int, len_tup, len_lst, tpl_lst, tpl_tup, ML.sum_tup, sum_lst, all_lst, ix_row_tup, ix_row_lst, ML.eq_int, ML.ne_int, row_tup, row_lst, nv0, List.map_cons, List.map_nil, List.length_cons, List.length_nil, List.length_map, List.replicate_succ, List.replicate_zero, List.cons_append, List.nil_append, List.set_cons_zero, List.set_cons_succ, List.getElem?_cons_zero, List.getElem?_cons_succ, Option.join_some, Option.some.injEq, exists_eq_left', decide_eq_true_eq, Nat.zero_add, true_and, and_true, if_true, if_false, Bool.not_eq_true', Bool.false_eq_true, Bool.true_eq_false, at0p]
    · show Ev NoE (mn fLen (mCons (m2 gIx (mVar 3) (mC (.int 1))) mNil) [some G.dt, some l.dt, none, some (.tup [.str s, ones n])] S) _
      simp only [ev_def, ev_Then, ev_Put, ev_Set, ev_Rt, ev_Drop, ev_If, ev_B, ev_Not, ev_And, ev_Or, ev_AndV, ev_OrV, ev_NotV, ev_Chain, ev_m1, ev_m2, ev_mn, ev_cons, ev_nil, ev_var, ev_c, ev_P, ev_noP, ev_Sl, ev_New, ev_RepO, ev_call, ev_App, ev_mErr, ev_sNx, ev_Asg, ev_Aug, ev_Par2, ev_Par3, ev_For, ev_Walk, ev_Lc, ev_Dc, ev_Yes, ev_Try1, ev_ret, ev_ok, ev_exc, ev_new, ev_nx, ev_bnd, ev_rd, at1_eq, at2_eq, at3_eq, aft_nx, aft_rt, aft_bk, aft_ct, out_rt, out_nx, trn_nx, trn_bk, trn_ct, trn_rt, tru_bl, asInt_int, add_int, addI_int, sub_int, ML.neg_int', ML.lt_int', ML.le_int', ML.gt_int', ML.ge_int', max_int, min_int, int_int, len_tup, len_lst, tpl_lst, tpl_tup, ML.sum_tup, sum_lst, all_lst, ix_row_tup, ix_row_lst, ML.eq_int, ML.ne_int, row_tup, row_lst, nv0, List.map_cons, List.map_nil, List.length_cons, List.length_nil, List.length_map, List.replicate_succ, List.replicate_zero, List.cons_append, List.nil_append, List.set_cons_zero, List.set_cons_succ, List.getElem?_cons_zero, List.getElem?_cons_succ, Option.join_some, Option.some.injEq, exists_eq_left', decide_eq_true_eq, Nat.zero_add, true_and, and_true, if_true, if_false, Bool.not_eq_true', Bool.false_eq_true, Bool.true_eq_false, at1p, ones]
      show Dt.int _ = Dt.int ((List.replicate n (1 : Int)).map Dt.int).length
      rw [List.length_map]
  · have ed : dputs ([Dt.tup [.str G.a, ones G.p], Dt.tup [.str G.b, ones G.q]].map fun d => (tkey d, tlen d)) [] [] = ([.inr G.a, .inr G.b], [.int G.p, .int G.q]) := by
      show dput (dput [] [] (.inr G.a) (.int ((List.replicate G.p (1 : Int)).map Dt.int).length)).1 (dput [] [] (.inr G.a) (.int ((List.replicate G.p (1 : Int)).map Dt.int).length)).2 (.inr G.b) (.int ((List.replicate G.q (1 : Int)).map Dt.int).length) = _
      rw [List.length_map, List.length_replicate, List.length_map, List.length_replicate]
      show (if (([Sum.inr G.a] : List Key).any fun j => decide (j = Sum.inr G.b)) = true then _ else ([Sum.inr G.a] ++ [Sum.inr G.b], [Dt.int G.p] ++ [Dt.int G.q])) = _
      rw [if_neg]
      · rfl
      · simp [o.ne]
    rw [ed]
    have k1 := o.from_ l hl
    have k2 := o.to_ l hl
    have lo := o.ok l hl
    have a0 : ∀ {a b c d e : Dt}, atI [a, b, c, d, e] 0 = some a := rfl
    have a1 : ∀ {a b c d e : Dt}, atI [a, b, c, d, e] 1 = some b := rfl
    have i1 : cNi (.str l.a) (.dct [.inr G.a, .inr G.b] [.int G.p, .int G.q]) S = some (.bl false) := ph_in o k1
    have i2 : cNi (.str l.b) (.dct [.inr G.a, .inr G.b] [.int G.p, .int G.q]) S = some (.bl false) := ph_in o k2
    have j1 : gIx (.dct [.inr G.a, .inr G.b] [.int G.p, .int G.q]) (.str l.a) S = some (.int l.g.length) := ph_ix o k1
    have j2 : gIx (.dct [.inr G.a, .inr G.b] [.int G.p, .int G.q]) (.str l.b) S = some (.int l.t.length) := ph_ix o k2
    have p1 := lo.g.pos
    have p2 := lo.t.pos
    simp only [ev_def, ev_Then, ev_Put, ev_Set, ev_Rt, ev_Drop, ev_If, ev_B, ev_Not, ev_And, ev_Or, ev_AndV, ev_OrV, ev_NotV, ev_Chain, ev_m1, ev_m2, ev_mn, ev_cons, ev_nil, ev_var, ev_c, ev_P, ev_noP, ev_Sl, ev_New, ev_RepO, ev_call, ev_App, ev_mErr, ev_sNx, ev_Asg, ev_Aug, ev_Par2, ev_Par3, ev_For, ev_Walk, ev_Lc, ev_Dc, ev_Yes, ev_Try1, ev_ret, ev_ok, ev_exc, ev_new, ev_nx, ev_bnd, ev_rd, at1_eq, at2_eq, at3_eq, aft_nx, aft_rt, aft_bk, aft_ct, out_rt, out_nx, trn_nx, trn_bk, trn_ct, trn_rt, tru_bl, asInt_int, add_int, addI_int, sub_int, ML.neg_int', ML.lt_int', ML.le_int', ML.gt_int', ML.ge_int', max_int, min_int, int_int, len_tup, len_lst, tpl_lst, tpl_tup, ML.sum_tup, sum_lst, all_lst, ix_row_tup, ix_row_lst, ML.eq_int, ML.ne_int, row_tup, row_lst, nv0, List.map_cons, List.map_nil, List.length_cons, List.length_nil, List.length_map, List.replicate_succ, List.replicate_zero, List.cons_append, List.nil_append, List.set_cons_zero, List.set_cons_succ, List.getElem?_cons_zero, List.getElem?_cons_succ, Option.join_some, Option.some.injEq, exists_eq_left', decide_eq_true_eq, Nat.zero_add, true_and, and_true, if_true, if_false, Bool.not_eq_true', Bool.false_eq_true, Bool.true_eq_false, Ln.dt, a0, a1, at2', at3', at4', i1, i2, j1, j2, decide_true, Bool.not_true, p1, p2]
theorem look_eq (o : GrOk G) : m_look_at_graph [G.dt] S = .ok .non S := by
  refine ev_eq ?_
  unfold m_look_at_graph
  have gd : gIx G.dt (.int 0) S = some (.tup [.tup [.str G.a, ones G.p], .tup [.str G.b, ones G.q]]) := by
    unfold Gr.dt
    rw [ix_row_tup]; rfl
  have ge : gIx G.dt (.int 1) S = some (.tup (G.ls.map Ln.dt)) := by
    unfold Gr.dt
    rw [ix_row_tup]; rfl
  have names : m_task_names [G.dt] S = .ok (.lst [.str G.a, .str G.b]) S := by
    refine ev_eq ?_
    unfold m_task_names
    simp only [ev_def, ev_Then, ev_Put, ev_Set, ev_Rt, ev_Drop, ev_If, ev_B, ev_Not, ev_And, ev_Or, ev_AndV, ev_OrV, ev_NotV, ev_Chain, ev_m1, ev_m2, ev_mn, ev_cons, ev_nil, ev_var, ev_c, ev_P, ev_noP, ev_Sl, ev_New, ev_RepO, ev_call, ev_App, ev_mErr, ev_sNx, ev_Asg, ev_Aug, ev_Par2, ev_Par3, ev_For, ev_Walk, ev_Lc, ev_Dc, ev_Yes, ev_Try1, ev_ret, ev_ok, ev_exc, ev_new, ev_nx, ev_bnd, ev_rd, at1_eq, at2_eq, at3_eq, aft_nx, aft_rt, aft_bk, aft_ct, out_rt, out_nx, trn_nx, trn_bk, trn_ct, trn_rt, tru_bl, asInt_int, add_int, addI_int, sub_int, ML.neg_int', ML.lt_int', ML.le_int', ML.gt_int', ML.ge_int', max_int, min_int, int_int, len_tup, len_lst, tpl_lst, tpl_tup, ML.sum_tup, sum_lst, all_lst, ix_row_tup, ix_row_lst, ML.eq_int, ML.ne_int, row_tup, row_lst, nv0, List.map_cons, List.map_nil, List.length_cons, List.length_nil, List.length_map, List.replicate_succ, List.replicate_zero, List.cons_append, List.nil_append, List.set_cons_zero, List.set_cons_succ, List.getElem?_cons_zero, List.getElem?_cons_succ, Option.join_some, Option.some.injEq, exists_eq_left', decide_eq_true_eq, Nat.zero_add, true_and, and_true, if_true, if_false, Bool.not_eq_true', Bool.false_eq_true, Bool.true_eq_false, gd]
    refine ⟨_, rfl, by show 2 ≤ cap; decide, ?_⟩
    refine ev_lcGo_pure (g := thd) _ (fun d hd => ?_) [] ?_
    · have h2 : ∃ (s : Str) (n : Nat), d = .tup [.str s, ones n] := by
        rcases List.mem_cons.mp hd with rfl | hd
        · exact ⟨_, _, rfl⟩
        · rcases List.mem_cons.mp hd with rfl | hd
          · exact ⟨_, _, rfl⟩
          · cases hd
      obtain ⟨s, n, rfl⟩ := h2
      refine ⟨_, rfl, ev_eq ?_⟩
      show Ev NoE (m2 gIx (mVar 1) (mC (.int 0)) [some G.dt, some (.tup [.str s, ones n])] S) _
      simp only [ev_def, ev_Then, ev_Put, ev_Set, ev_Rt, ev_Drop, ev_If, ev_B, ev_Not, ev_And, ev_Or, ev_AndV, ev_OrV, ev_NotV, ev_Chain, ev_m1, ev_m2, ev_mn, ev_cons, ev_nil, ev_var, ev_c, ev_P, ev_noP, ev_Sl, ev_New, ev_RepO, ev_call, ev_App, ev_mErr, ev_sNx, ev_Asg, ev_Aug, ev_Par2, ev_Par3, ev_For, ev_Walk, ev_Lc, ev_Dc, ev_Yes, ev_Try1, ev_ret, ev_ok, ev_exc, ev_new, ev_nx, ev_bnd, ev_rd, at1_eq, at2_eq, at3_eq, aft_nx, aft_rt, aft_bk, aft_ct, out_rt, out_nx, trn_nx, trn_bk, trn_ct, trn_rt, tru_bl, asInt_int, add_int, addI_int, sub_int, ML.neg_int', ML.lt_int', ML.le_int', ML.gt_int', ML.ge_int', max_int, min_int, int_int, len_tup, len_lst, tpl_lst, tpl_tup, ML.sum_tup, sum_lst, all_lst, ix_row_tup, ix_row_lst, ML.eq_int, ML.ne_int, row_tup, row_lst, nv0, List.map_cons, List.map_nil, List.length_cons, List.length_nil, List.length_map, List.replicate_succ, List.replicate_zero, List.cons_append, List.nil_append, List.set_cons_zero, List.set_cons_succ, List.getElem?_cons_zero, List.getElem?_cons_succ, Option.join_some, Option.some.injEq, exists_eq_left', decide_eq_true_eq, Nat.zero_add, true_and, and_true, if_true, if_false, Bool.not_eq_true', Bool.false_eq_true, Bool.true_eq_false, at0p]
      rfl
    · simp only [ev_def, ev_Then, ev_Put, ev_Set, ev_Rt, ev_Drop, ev_If, ev_B, ev_Not, ev_And, ev_Or, ev_AndV, ev_OrV, ev_NotV, ev_Chain, ev_m1, ev_m2, ev_mn, ev_cons, ev_nil, ev_var, ev_c, ev_P, ev_noP, ev_Sl, ev_New, ev_RepO, ev_call, ev_App, ev_mErr, ev_sNx, ev_Asg, ev_Aug, ev_Par2, ev_Par3, ev_For, ev_Walk, ev_Lc, ev_Dc, ev_Yes, ev_Try1, ev_ret, ev_ok, ev_exc, ev_new, ev_nx, ev_bnd, ev_rd, at1_eq, at2_eq, at3_eq, aft_nx, aft_rt, aft_bk, aft_ct, out_rt, out_nx, trn_nx, trn_bk, trn_ct, trn_rt, tru_bl, asInt_int, add_int, addI_int, sub_int, ML.neg_int', ML.lt_int', ML.le_int', ML.gt_int', ML.ge_int', max_int, min_int, int_int, len_tup, len_lst, tpl_lst, tpl_tup, ML.sum_tup, sum_lst, all_lst, ix_row_tup, ix_row_lst, ML.eq_int, ML.ne_int, row_tup, row_lst, nv0, List.map_cons, List.map_nil, List.length_cons, List.length_nil, List.length_map, List.replicate_succ, List.replicate_zero, List.cons_append, List.nil_append, List.set_cons_zero, List.set_cons_succ, List.getElem?_cons_zero, List.getElem?_cons_succ, Option.join_some, Option.some.injEq, exists_eq_left', decide_eq_true_eq, Nat.zero_add, true_and, and_true, if_true, if_false, Bool.not_eq_true', Bool.false_eq_true, Bool.true_eq_false]
      rfl
  have ls : fLenSet (.lst [.str G.a, .str G.b]) S = some (.int 2) := by
    have nd : ([G.a, G.b] : List Str).Nodup := by simp [o.ne]
    show ((allS ([G.a, G.b].map Dt.str)).bind fun xs => if xs.length ≤ 1000 then some (Dt.int (cntS xs xs.length)) else none) = _
    rw [allS_map]
    show (if ([G.a, G.b] : List Str).length ≤ 1000 then some (Dt.int (cntS [G.a, G.b] ([G.a, G.b] : List Str).length)) else none) = _
    rw [if_pos (by show 2 ≤ 1000; decide), cntS_nodup nd _ (Nat.le_refl _)]
    rfl
  simp only [ev_def, ev_Then, ev_Put, ev_Set, ev_Rt, ev_Drop, ev_If, ev_B, ev_Not, ev_And, ev_Or, ev_AndV, ev_OrV, ev_NotV, ev_Chain, ev_m1, ev_m2, ev_mn, ev_cons, ev_nil, ev_var, ev_c, ev_P, ev_noP, ev_Sl, ev_New, ev_RepO, ev_call, ev_App, ev_mErr, ev_sNx, ev_Asg, ev_Aug, ev_Par2, ev_Par3, ev_For, ev_Walk, ev_Lc, ev_Dc, ev_Yes, ev_Try1, ev_ret, ev_ok, ev_exc, ev_new, ev_nx, ev_bnd, ev_rd, at1_eq, at2_eq, at3_eq, aft_nx, aft_rt, aft_bk, aft_ct, out_rt, out_nx, trn_nx, trn_bk, trn_ct, trn_rt, tru_bl, asInt_int, add_int, addI_int, sub_int, ML.neg_int', ML.lt_int', ML.le_int', ML.gt_int', ML.ge_int', max_int, min_int, int_int, len_tup, len_lst, tpl_lst, tpl_tup, ML.sum_tup, sum_lst, all_lst, ix_row_tup, ix_row_lst, ML.eq_int, ML.ne_int, row_tup, row_lst, nv0, List.map_cons, List.map_nil, List.length_cons, List.length_nil, List.length_map, List.replicate_succ, List.replicate_zero, List.cons_append, List.nil_append, List.set_cons_zero, List.set_cons_succ, List.getElem?_cons_zero, List.getElem?_cons_succ, Option.join_some, Option.some.injEq, exists_eq_left', decide_eq_true_eq, Nat.zero_add, true_and, and_true, if_true, if_false, Bool.not_eq_true', Bool.false_eq_true, Bool.true_eq_false, eq_ev (form_eq o), eq_ev names, ls, Bool.not_true, ge]
  rw [if_neg (by decide)]
  refine ⟨_, rfl, by show (G.ls.map Ln.dt).length ≤ cap; rw [List.length_map]; have := o.few; unfold cap; omega, ?_⟩
  refine lc_true (fun d hd => ?_) ?_
  · obtain ⟨l, hl, rfl⟩ := List.mem_map.mp hd
    refine ⟨_, rfl, ev_eq ?_⟩
    show Ev NoE (mCall 2 m_fits (mCons (mVar 0) (mCons (mVar 2) mNil)) [some G.dt, some _, some l.dt] S) _
    simp only [ev_def, ev_Then, ev_Put, ev_Set, ev_Rt, ev_Drop, ev_If, ev_B, ev_Not, ev_And, ev_Or, ev_AndV, ev_OrV, ev_NotV, ev_Chain, ev_m1, ev_m2, ev_mn, ev_cons, ev_nil, ev_var, ev_c, ev_P, ev_noP, ev_Sl, ev_New, ev_RepO, ev_call, ev_App, ev_mErr, ev_sNx, ev_Asg, ev_Aug, ev_Par2, ev_Par3, ev_For, ev_Walk, ev_Lc, ev_Dc, ev_Yes, ev_Try1, ev_ret, ev_ok, ev_exc, ev_new, ev_nx, ev_bnd, ev_rd, at1_eq, at2_eq, at3_eq, aft_nx, aft_rt, aft_bk, aft_ct, out_rt, out_nx, trn_nx, trn_bk, trn_ct, trn_rt, tru_bl, asInt_int, add_int, addI_int, sub_int, ML.neg_int', ML.lt_int', ML.le_int', ML.gt_int', ML.ge_int', max_int, min_int, int_int, len_tup, len_lst, tpl_lst, tpl_tup, ML.sum_tup, sum_lst, all_lst, ix_row_tup, ix_row_lst, ML.eq_int, ML.ne_int, row_tup, row_lst, nv0, List.map_cons, List.map_nil, List.length_cons, List.length_nil, List.length_map, List.replicate_succ, List.replicate_zero, List.cons_append, List.nil_append, List.set_cons_zero, List.set_cons_succ, List.getElem?_cons_zero, List.getElem?_cons_succ, Option.join_some, Option.some.injEq, exists_eq_left', decide_eq_true_eq, Nat.zero_add, true_and, and_true, if_true, if_false, Bool.not_eq_true', Bool.false_eq_true, Bool.true_eq_false, eq_ev (fits_eq o hl)]
  · simp only [ev_def, ev_Then, ev_Put, ev_Set, ev_Rt, ev_Drop, ev_If, ev_B, ev_Not, ev_And, ev_Or, ev_AndV, ev_OrV, ev_NotV, ev_Chain, ev_m1, ev_m2, ev_mn, ev_cons, ev_nil, ev_var, ev_c, ev_P, ev_noP, ev_Sl, ev_New, ev_RepO, ev_call, ev_App, ev_mErr, ev_sNx, ev_Asg, ev_Aug, ev_Par2, ev_Par3, ev_For, ev_Walk, ev_Lc, ev_Dc, ev_Yes, ev_Try1, ev_ret, ev_ok, ev_exc, ev_new, ev_nx, ev_bnd, ev_rd, at1_eq, at2_eq, at3_eq, aft_nx, aft_rt, aft_bk, aft_ct, out_rt, out_nx, trn_nx, trn_bk, trn_ct, trn_rt, tru_bl, asInt_int, add_int, addI_int, sub_int, ML.neg_int', ML.lt_int', ML.le_int', ML.gt_int', ML.ge_int', max_int, min_int, int_int, len_tup, len_lst, tpl_lst, tpl_tup, ML.sum_tup, sum_lst, all_lst, ix_row_tup, ix_row_lst, ML.eq_int, ML.ne_int, row_tup, row_lst, nv0, List.map_cons, List.map_nil, List.length_cons, List.length_nil, List.length_map, List.replicate_succ, List.replicate_zero, List.cons_append, List.nil_append, List.set_cons_zero, List.set_cons_succ, List.getElem?_cons_zero, List.getElem?_cons_succ, Option.join_some, Option.some.injEq, exists_eq_left', decide_eq_true_eq, Nat.zero_add, true_and, and_true, if_true, if_false, Bool.not_eq_true', Bool.false_eq_true, Bool.true_eq_false, all_trues]
theorem atL {α : Type} {xs : List α} {n : Nat} (h : n < xs.length) : atI xs (n : Int) = some xs[n] := by
  rw [atI_pos (by omega) (by omega)]
  simp
theorem lines_at (S : Sto) : gIx G.dt (.int 1) S = some (.tup (G.ls.map Ln.dt)) := by
  unfold Gr.dt
  rw [ix_row_tup]; rfl
theorem line_at {n : Nat} (h : n < G.ls.length) : atI (G.ls.map Ln.dt) (n : Int) = some (G.ls[n]).dt := by
  rw [atL (by simpa using h), List.getElem_map]
/-- look_at_line: a line's number -/
theorem lat_eq (o : GrOk G) {n : Nat} (h : n < G.ls.length) : m_look_at_line [G.dt, .int n] S = .ok .non S := by
  refine ev_eq ?_
  unfold m_look_at_line
  have k : isB 0 ((G.ls.length : Int) - 1) (.int n) = true := by
    show (decide ((0 : Int) ≤ (n : Int)) && decide ((n : Int) ≤ (G.ls.length : Int) - 1)) = true
    rw [decide_eq_true (by omega), decide_eq_true (by omega)]; rfl
  simp only [ev_def, ev_Then, ev_Put, ev_Set, ev_Rt, ev_Drop, ev_If, ev_B, ev_Not, ev_And, ev_Or, ev_AndV, ev_OrV, ev_NotV, ev_Chain, ev_m1, ev_m2, ev_mn, ev_cons, ev_nil, ev_var, ev_c, ev_P, ev_noP, ev_Sl, ev_New, ev_RepO, ev_call, ev_App, ev_mErr, ev_sNx, ev_Asg, ev_Aug, ev_Par2, ev_Par3, ev_For, ev_Walk, ev_Lc, ev_Dc, ev_Yes, ev_Try1, ev_ret, ev_ok, ev_exc, ev_new, ev_nx, ev_bnd, ev_rd, at1_eq, at2_eq, at3_eq, aft_nx, aft_rt, aft_bk, aft_ct, out_rt, out_nx, trn_nx, trn_bk, trn_ct, trn_rt, tru_bl, asInt_int, add_int, addI_int, sub_int, ML.neg_int', ML.lt_int', ML.le_int', ML.gt_int', ML.ge_int', max_int, min_int, int_int, len_tup, len_lst, tpl_lst, tpl_tup, ML.sum_tup, sum_lst, all_lst, ix_row_tup, ix_row_lst, ML.eq_int, ML.ne_int, row_tup, row_lst, nv0, List.map_cons, List.map_nil, List.length_cons, List.length_nil, List.length_map, List.replicate_succ, List.replicate_zero, List.cons_append, List.nil_append, List.set_cons_zero, List.set_cons_succ, List.getElem?_cons_zero, List.getElem?_cons_succ, Option.join_some, Option.some.injEq, exists_eq_left', decide_eq_true_eq, Nat.zero_add, true_and, and_true, if_true, if_false, Bool.not_eq_true', Bool.false_eq_true, Bool.true_eq_false, eq_ev (look_eq o), lines_at, eq_ev (number_ok (d := .int n) rfl k)]
theorem lat_bad {X : Str → Dt → Sto → Prop} {Q : Dt → Sto → Prop} (o : GrOk G) {d : Dt} (hp : Dt.plain d = true) (k : isB 0 ((G.ls.length : Int) - 1) d = false) : Ev X (m_look_at_line [G.dt, d] S) Q ↔ X "BadNumber" d S := by
  unfold m_look_at_line
  simp only [ev_def, ev_Then, ev_Put, ev_Set, ev_Rt, ev_Drop, ev_If, ev_B, ev_Not, ev_And, ev_Or, ev_AndV, ev_OrV, ev_NotV, ev_Chain, ev_m1, ev_m2, ev_mn, ev_cons, ev_nil, ev_var, ev_c, ev_P, ev_noP, ev_Sl, ev_New, ev_RepO, ev_call, ev_App, ev_mErr, ev_sNx, ev_Asg, ev_Aug, ev_Par2, ev_Par3, ev_For, ev_Walk, ev_Lc, ev_Dc, ev_Yes, ev_Try1, ev_ret, ev_ok, ev_exc, ev_new, ev_nx, ev_bnd, ev_rd, at1_eq, at2_eq, at3_eq, aft_nx, aft_rt, aft_bk, aft_ct, out_rt, out_nx, trn_nx, trn_bk, trn_ct, trn_rt, tru_bl, asInt_int, add_int, addI_int, sub_int, ML.neg_int', ML.lt_int', ML.le_int', ML.gt_int', ML.ge_int', max_int, min_int, int_int, len_tup, len_lst, tpl_lst, tpl_tup, ML.sum_tup, sum_lst, all_lst, ix_row_tup, ix_row_lst, ML.eq_int, ML.ne_int, row_tup, row_lst, nv0, List.map_cons, List.map_nil, List.length_cons, List.length_nil, List.length_map, List.replicate_succ, List.replicate_zero, List.cons_append, List.nil_append, List.set_cons_zero, List.set_cons_succ, List.getElem?_cons_zero, List.getElem?_cons_succ, Option.join_some, Option.some.injEq, exists_eq_left', decide_eq_true_eq, Nat.zero_add, true_and, and_true, if_true, if_false, Bool.not_eq_true', Bool.false_eq_true, Bool.true_eq_false, eq_ev (look_eq o), lines_at, number_bad hp k]
section
variable {n : Nat} {c : Int}
theorem cnt_ok (h0 : 0 ≤ c) (h1 : c ≤ 100000) : isB 0 100000 (.int c) = true := by
  show (decide (0 ≤ c) && decide (c ≤ 100000)) = true
  rw [decide_eq_true h0, decide_eq_true h1]; rfl
theorem gave_eq (o : GrOk G) (h : n < G.ls.length) (h0 : 0 ≤ c) (h1 : c ≤ 100000) : m_gave [G.dt, .int n, .int c] S = .ok (.int (pre (G.ls[n]).g c)) S := by
  have ol := o.ok _ (List.getElem_mem h)
  refine ev_eq ?_
  unfold m_gave
  have e : ∀ S, gIx (G.ls[n]).dt (.int 2) S = some (rowD (G.ls[n]).g) := fun S => by unfold Ln.dt; rw [ix_row_tup]; rfl
  simp only [ev_def, ev_Then, ev_Put, ev_Set, ev_Rt, ev_Drop, ev_If, ev_B, ev_Not, ev_And, ev_Or, ev_AndV, ev_OrV, ev_NotV, ev_Chain, ev_m1, ev_m2, ev_mn, ev_cons, ev_nil, ev_var, ev_c, ev_P, ev_noP, ev_Sl, ev_New, ev_RepO, ev_call, ev_App, ev_mErr, ev_sNx, ev_Asg, ev_Aug, ev_Par2, ev_Par3, ev_For, ev_Walk, ev_Lc, ev_Dc, ev_Yes, ev_Try1, ev_ret, ev_ok, ev_exc, ev_new, ev_nx, ev_bnd, ev_rd, at1_eq, at2_eq, at3_eq, aft_nx, aft_rt, aft_bk, aft_ct, out_rt, out_nx, trn_nx, trn_bk, trn_ct, trn_rt, tru_bl, asInt_int, add_int, addI_int, sub_int, ML.neg_int', ML.lt_int', ML.le_int', ML.gt_int', ML.ge_int', max_int, min_int, int_int, len_tup, len_lst, tpl_lst, tpl_tup, ML.sum_tup, sum_lst, all_lst, ix_row_tup, ix_row_lst, ML.eq_int, ML.ne_int, row_tup, row_lst, nv0, List.map_cons, List.map_nil, List.length_cons, List.length_nil, List.length_map, List.replicate_succ, List.replicate_zero, List.cons_append, List.nil_append, List.set_cons_zero, List.set_cons_succ, List.getElem?_cons_zero, List.getElem?_cons_succ, Option.join_some, Option.some.injEq, exists_eq_left', decide_eq_true_eq, Nat.zero_add, true_and, and_true, if_true, if_false, Bool.not_eq_true', Bool.false_eq_true, Bool.true_eq_false, eq_ev (lat_eq o h), lines_at, line_at h, e, eq_ev (number_ok (d := .int c) rfl (cnt_ok h0 h1)), eq_ev (counted_eq ol.g)]
theorem took_eq (o : GrOk G) (h : n < G.ls.length) (h0 : 0 ≤ c) (h1 : c ≤ 100000) : m_took [G.dt, .int n, .int c] S = .ok (.int (pre (G.ls[n]).t c)) S := by
  have ol := o.ok _ (List.getElem_mem h)
  refine ev_eq ?_
  unfold m_took
  have e : ∀ S, gIx (G.ls[n]).dt (.int 3) S = some (rowD (G.ls[n]).t) := fun S => by unfold Ln.dt; rw [ix_row_tup]; rfl
  simp only [ev_def, ev_Then, ev_Put, ev_Set, ev_Rt, ev_Drop, ev_If, ev_B, ev_Not, ev_And, ev_Or, ev_AndV, ev_OrV, ev_NotV, ev_Chain, ev_m1, ev_m2, ev_mn, ev_cons, ev_nil, ev_var, ev_c, ev_P, ev_noP, ev_Sl, ev_New, ev_RepO, ev_call, ev_App, ev_mErr, ev_sNx, ev_Asg, ev_Aug, ev_Par2, ev_Par3, ev_For, ev_Walk, ev_Lc, ev_Dc, ev_Yes, ev_Try1, ev_ret, ev_ok, ev_exc, ev_new, ev_nx, ev_bnd, ev_rd, at1_eq, at2_eq, at3_eq, aft_nx, aft_rt, aft_bk, aft_ct, out_rt, out_nx, trn_nx, trn_bk, trn_ct, trn_rt, tru_bl, asInt_int, add_int, addI_int, sub_int, ML.neg_int', ML.lt_int', ML.le_int', ML.gt_int', ML.ge_int', max_int, min_int, int_int, len_tup, len_lst, tpl_lst, tpl_tup, ML.sum_tup, sum_lst, all_lst, ix_row_tup, ix_row_lst, ML.eq_int, ML.ne_int, row_tup, row_lst, nv0, List.map_cons, List.map_nil, List.length_cons, List.length_nil, List.length_map, List.replicate_succ, List.replicate_zero, List.cons_append, List.nil_append, List.set_cons_zero, List.set_cons_succ, List.getElem?_cons_zero, List.getElem?_cons_succ, Option.join_some, Option.some.injEq, exists_eq_left', decide_eq_true_eq, Nat.zero_add, true_and, and_true, if_true, if_false, Bool.not_eq_true', Bool.false_eq_true, Bool.true_eq_false, eq_ev (lat_eq o h), lines_at, line_at h, e, eq_ev (number_ok (d := .int c) rfl (cnt_ok h0 h1)), eq_ev (counted_eq ol.t)]
theorem need_eq (o : GrOk G) (h : n < G.ls.length) (h0 : 0 ≤ c) (h1 : c ≤ 100000) : m_need [G.dt, .int n, .int c] S = .ok (.int ((G.ls[n]).nd c)) S := by
  have ol := o.ok _ (List.getElem_mem h)
  refine ev_eq ?_
  unfold m_need
  simp only [ev_def, ev_Then, ev_Put, ev_Set, ev_Rt, ev_Drop, ev_If, ev_B, ev_Not, ev_And, ev_Or, ev_AndV, ev_OrV, ev_NotV, ev_Chain, ev_m1, ev_m2, ev_mn, ev_cons, ev_nil, ev_var, ev_c, ev_P, ev_noP, ev_Sl, ev_New, ev_RepO, ev_call, ev_App, ev_mErr, ev_sNx, ev_Asg, ev_Aug, ev_Par2, ev_Par3, ev_For, ev_Walk, ev_Lc, ev_Dc, ev_Yes, ev_Try1, ev_ret, ev_ok, ev_exc, ev_new, ev_nx, ev_bnd, ev_rd, at1_eq, at2_eq, at3_eq, aft_nx, aft_rt, aft_bk, aft_ct, out_rt, out_nx, trn_nx, trn_bk, trn_ct, trn_rt, tru_bl, asInt_int, add_int, addI_int, sub_int, ML.neg_int', ML.lt_int', ML.le_int', ML.gt_int', ML.ge_int', max_int, min_int, int_int, len_tup, len_lst, tpl_lst, tpl_tup, ML.sum_tup, sum_lst, all_lst, ix_row_tup, ix_row_lst, ML.eq_int, ML.ne_int, row_tup, row_lst, nv0, List.map_cons, List.map_nil, List.length_cons, List.length_nil, List.length_map, List.replicate_succ, List.replicate_zero, List.cons_append, List.nil_append, List.set_cons_zero, List.set_cons_succ, List.getElem?_cons_zero, List.getElem?_cons_succ, Option.join_some, Option.some.injEq, exists_eq_left', decide_eq_true_eq, Nat.zero_add, true_and, and_true, if_true, if_false, Bool.not_eq_true', Bool.false_eq_true, Bool.true_eq_false, eq_ev (lat_eq o h), lines_at, line_at h, eq_ev (number_ok (d := .int c) rfl (cnt_ok h0 h1)), eq_ev (told_eq ol)]
end
end
end Plain

set_option Elab.async false
set_option linter.all false
set_option maxRecDepth 100000
set_option maxHeartbeats 1000000
namespace Plain
open PySem PySem.Spec L2 ML Walk

section
variable {l : Ln} {f : Int}
theorem nd_def : (if far l.g (l.goal f) > 0 then far l.g (l.goal f) else 0) = l.nd f := rfl
theorem goal_bound (o : LnOk l) (h0 : 0 ≤ f) (h1 : f ≤ 100000) : -(10 ^ 15) ≤ l.goal f ∧ l.goal f ≤ 10 ^ 15 := by
  have := pre_bound o.t (k := f + 1) (by omega) (by omega)
  have := o.s0
  have := o.s1
  unfold Ln.goal
  omega
theorem nd_small (o : LnOk l) (h0 : 0 ≤ f) (h1 : f ≤ 100000) : 0 ≤ l.nd f ∧ l.nd f ≤ 10 ^ 20 := by
  obtain ⟨a, b⟩ := goal_bound o h0 h1
  obtain ⟨c, d⟩ := far_bound o.g a b
  unfold Ln.nd
  split <;> omega
theorem nd_enough (o : LnOk l) : pre l.t (f + 1) ≤ l.st + pre l.g (l.nd f) := by
  have a := (l.nd_ge f).2.1
  have b := pre_le o.g a
  have c := (far_spec o.g (l.goal f)).1
  unfold Ln.goal at *
  omega
theorem nd_least (o : LnOk l) (h : 0 < l.nd f) : l.st + pre l.g (l.nd f - 1) < pre l.t (f + 1) := by
  have a := (l.nd_ge f).2.2 h
  have c := (far_spec o.g (l.goal f)).2
  rw [a]
  unfold Ln.goal at *
  omega
theorem nd_mono (o : LnOk l) : l.nd f ≤ l.nd (f + 1) := by
  have a : l.goal f ≤ l.goal (f + 1) := by
    have := pre_up o.t (f + 1)
    unfold Ln.goal
    omega
  have b := far_mono o.g a
  have c := l.nd_ge (f + 1)
  have d := l.nd_ge f
  by_cases q : 0 < l.nd f
  · have := d.2.2 q
    omega
  · omega
end
section
variable {G : Gr} {S : Sto} {n : Nat} {f : Int}
theorem need_right (o : GrOk G) (h : n < G.ls.length) (h0 : 0 ≤ f) (h1 : f ≤ 100000) : m__law_need_right [G.dt, .int n, .int f] S = .ok (.bl true) S := by
  have ol := o.ok _ (List.getElem_mem h)
  have d2 : ∀ S, gIx (G.ls[n]).dt (.int 2) S = some (rowD (G.ls[n]).g) := fun S => by unfold Ln.dt; rw [ix_row_tup]; rfl
  have d3 : ∀ S, gIx (G.ls[n]).dt (.int 3) S = some (rowD (G.ls[n]).t) := fun S => by unfold Ln.dt; rw [ix_row_tup]; rfl
  have d4 : ∀ S, gIx (G.ls[n]).dt (.int 4) S = some (.int (G.ls[n]).st) := fun S => by unfold Ln.dt; rw [ix_row_tup]; rfl
  obtain ⟨b0, b1⟩ := nd_small ol h0 h1
  have sm : (G.ls[n].nd f).natAbs < 2 ^ 200 := by
    have : (10 : Nat) ^ 20 < 2 ^ 200 := by decide
    omega
  have en := nd_enough (f := f) ol
  have ls := nd_least (f := f) ol
  refine ev_eq ?_
  unfold m__law_need_right
  simp only [ev_def, ev_Then, ev_Put, ev_Set, ev_Rt, ev_Drop, ev_If, ev_B, ev_Not, ev_And, ev_Or, ev_AndV, ev_OrV, ev_NotV, ev_Chain, ev_m1, ev_m2, ev_mn, ev_cons, ev_nil, ev_var, ev_c, ev_P, ev_noP, ev_Sl, ev_New, ev_RepO, ev_call, ev_App, ev_mErr, ev_sNx, ev_Asg, ev_Aug, ev_Par2, ev_Par3, ev_For, ev_Walk, ev_Lc, ev_Dc, ev_Yes, ev_Try1, ev_ret, ev_ok, ev_exc, ev_new, ev_nx, ev_bnd, ev_rd, at1_eq, at2_eq, at3_eq, aft_nx, aft_rt, aft_bk, aft_ct, out_rt, out_nx, trn_nx, trn_bk, trn_ct, trn_rt, tru_bl, asInt_int, add_int, addI_int, sub_int, ML.neg_int', ML.lt_int', ML.le_int', ML.gt_int', ML.ge_int', max_int, min_int, int_int, len_tup, len_lst, tpl_lst, tpl_tup, ML.sum_tup, sum_lst, all_lst, ix_row_tup, ix_row_lst, ML.eq_int, ML.ne_int, row_tup, row_lst, nv0, List.map_cons, List.map_nil, List.length_cons, List.length_nil, List.length_map, List.replicate_succ, List.replicate_zero, List.cons_append, List.nil_append, List.set_cons_zero, List.set_cons_succ, List.getElem?_cons_zero, List.getElem?_cons_succ, Option.join_some, Option.some.injEq, exists_eq_left', decide_eq_true_eq, Nat.zero_add, true_and, and_true, if_true, if_false, Bool.not_eq_true', Bool.false_eq_true, Bool.true_eq_false, lines_at, line_at h, d2, d3, d4, eq_ev (need_eq o h h0 h1), eq_ev (far_eq ol), nd_def, eq_ev (same_int sm), eq_ev (lsum_eq ol.t), eq_ev (lsum_eq ol.g)]
  rw [if_neg (by omega)]
  have fin : if f = 100000 then True else Ev NoE (m_need [G.dt, .int n, .int (f + 1)] S) fun d S1 => ∃ r, cGe d (.int (G.ls[n].nd f)) S1 = some r ∧ r = .bl true ∧ S1 = S := by
    by_cases q : f = 100000
    · rw [if_pos q]; trivial
    · rw [if_neg q]
      have m := nd_mono (f := f) ol
      simp only [ev_def, ev_Then, ev_Put, ev_Set, ev_Rt, ev_Drop, ev_If, ev_B, ev_Not, ev_And, ev_Or, ev_AndV, ev_OrV, ev_NotV, ev_Chain, ev_m1, ev_m2, ev_mn, ev_cons, ev_nil, ev_var, ev_c, ev_P, ev_noP, ev_Sl, ev_New, ev_RepO, ev_call, ev_App, ev_mErr, ev_sNx, ev_Asg, ev_Aug, ev_Par2, ev_Par3, ev_For, ev_Walk, ev_Lc, ev_Dc, ev_Yes, ev_Try1, ev_ret, ev_ok, ev_exc, ev_new, ev_nx, ev_bnd, ev_rd, at1_eq, at2_eq, at3_eq, aft_nx, aft_rt, aft_bk, aft_ct, out_rt, out_nx, trn_nx, trn_bk, trn_ct, trn_rt, tru_bl, asInt_int, add_int, addI_int, sub_int, ML.neg_int', ML.lt_int', ML.le_int', ML.gt_int', ML.ge_int', max_int, min_int, int_int, len_tup, len_lst, tpl_lst, tpl_tup, ML.sum_tup, sum_lst, all_lst, ix_row_tup, ix_row_lst, ML.eq_int, ML.ne_int, row_tup, row_lst, nv0, List.map_cons, List.map_nil, List.length_cons, List.length_nil, List.length_map, List.replicate_succ, List.replicate_zero, List.cons_append, List.nil_append, List.set_cons_zero, List.set_cons_succ, List.getElem?_cons_zero, List.getElem?_cons_succ, Option.join_some, Option.some.injEq, exists_eq_left', decide_eq_true_eq, Nat.zero_add, true_and, and_true, if_true, if_false, Bool.not_eq_true', Bool.false_eq_true, Bool.true_eq_false, eq_ev (need_eq o h (c := f + 1) (by omega) (by omega)), decide_eq_true m]
  by_cases t : 0 < G.ls[n].nd f
  · rw [if_pos t, if_neg (by have := ls t; omega)]
    by_cases u : G.ls[n].nd f ≤ 100000
    · rw [if_pos u]
      simp only [ev_def, ev_Then, ev_Put, ev_Set, ev_Rt, ev_Drop, ev_If, ev_B, ev_Not, ev_And, ev_Or, ev_AndV, ev_OrV, ev_NotV, ev_Chain, ev_m1, ev_m2, ev_mn, ev_cons, ev_nil, ev_var, ev_c, ev_P, ev_noP, ev_Sl, ev_New, ev_RepO, ev_call, ev_App, ev_mErr, ev_sNx, ev_Asg, ev_Aug, ev_Par2, ev_Par3, ev_For, ev_Walk, ev_Lc, ev_Dc, ev_Yes, ev_Try1, ev_ret, ev_ok, ev_exc, ev_new, ev_nx, ev_bnd, ev_rd, at1_eq, at2_eq, at3_eq, aft_nx, aft_rt, aft_bk, aft_ct, out_rt, out_nx, trn_nx, trn_bk, trn_ct, trn_rt, tru_bl, asInt_int, add_int, addI_int, sub_int, ML.neg_int', ML.lt_int', ML.le_int', ML.gt_int', ML.ge_int', max_int, min_int, int_int, len_tup, len_lst, tpl_lst, tpl_tup, ML.sum_tup, sum_lst, all_lst, ix_row_tup, ix_row_lst, ML.eq_int, ML.ne_int, row_tup, row_lst, nv0, List.map_cons, List.map_nil, List.length_cons, List.length_nil, List.length_map, List.replicate_succ, List.replicate_zero, List.cons_append, List.nil_append, List.set_cons_zero, List.set_cons_succ, List.getElem?_cons_zero, List.getElem?_cons_succ, Option.join_some, Option.some.injEq, exists_eq_left', decide_eq_true_eq, Nat.zero_add, true_and, and_true, if_true, if_false, Bool.not_eq_true', Bool.false_eq_true, Bool.true_eq_false, eq_ev (gave_eq o h b0 u), decide_true, Bool.not_true]
      rw [if_neg (by omega)]
      exact fin
    · rw [if_neg u]
      exact fin
  · rw [if_neg t]
    by_cases u : G.ls[n].nd f ≤ 100000
    · rw [if_pos u]
      simp only [ev_def, ev_Then, ev_Put, ev_Set, ev_Rt, ev_Drop, ev_If, ev_B, ev_Not, ev_And, ev_Or, ev_AndV, ev_OrV, ev_NotV, ev_Chain, ev_m1, ev_m2, ev_mn, ev_cons, ev_nil, ev_var, ev_c, ev_P, ev_noP, ev_Sl, ev_New, ev_RepO, ev_call, ev_App, ev_mErr, ev_sNx, ev_Asg, ev_Aug, ev_Par2, ev_Par3, ev_For, ev_Walk, ev_Lc, ev_Dc, ev_Yes, ev_Try1, ev_ret, ev_ok, ev_exc, ev_new, ev_nx, ev_bnd, ev_rd, at1_eq, at2_eq, at3_eq, aft_nx, aft_rt, aft_bk, aft_ct, out_rt, out_nx, trn_nx, trn_bk, trn_ct, trn_rt, tru_bl, asInt_int, add_int, addI_int, sub_int, ML.neg_int', ML.lt_int', ML.le_int', ML.gt_int', ML.ge_int', max_int, min_int, int_int, len_tup, len_lst, tpl_lst, tpl_tup, ML.sum_tup, sum_lst, all_lst, ix_row_tup, ix_row_lst, ML.eq_int, ML.ne_int, row_tup, row_lst, nv0, List.map_cons, List.map_nil, List.length_cons, List.length_nil, List.length_map, List.replicate_succ, List.replicate_zero, List.cons_append, List.nil_append, List.set_cons_zero, List.set_cons_succ, List.getElem?_cons_zero, List.getElem?_cons_succ, Option.join_some, Option.some.injEq, exists_eq_left', decide_eq_true_eq, Nat.zero_add, true_and, and_true, if_true, if_false, Bool.not_eq_true', Bool.false_eq_true, Bool.true_eq_false, eq_ev (gave_eq o h b0 u), decide_true, Bool.not_true]
      rw [if_neg (by omega)]
      exact fin
    · rw [if_neg u]
      exact fin
end
end Plain

set_option Elab.async false
set_option linter.all false
set_option maxRecDepth 100000
set_option maxHeartbeats 1000000
namespace Plain
open PySem PySem.Spec L2 ML Walk

def rng1 (Q : Wk → Prop) : List Dt → Prop
  | [.int j] => small62 j = true ∧ Q (rng 0 j.toNat)
  | _ => False
theorem rng1_eq {Q : Wk → Prop} {j : Int} : rng1 Q [.int j] ↔ small62 j = true ∧ Q (rng 0 j.toNat) := Iff.rfl
theorem ev_Rng1 {X : Str → Dt → Sto → Prop} {ρ : Nv} {S : Sto} {ms : Nv → Mo (List Dt)} {Q : Wk → Sto → Prop} : Ev X (mRng1 ms ρ S) Q ↔ Ev X (ms ρ S) fun ds S' => rng1 (fun w => Q w S') ds := by
  unfold mRng1
  simp only [ev_bnd, ev_rd]
  refine Iff.of_eq (congrArg _ (funext fun ds => funext fun S' => propext ?_))
  match ds with
  | [.int j] =>
    rw [rng1_eq]
    by_cases h : small62 j = true <;> simp [h]
  | [] => simp [rng1]
  | _ :: _ :: _ => simp [rng1]
  | [.non] => simp [rng1]
  | [.bl _] => simp [rng1]
  | [.str _] => simp [rng1]
  | [.tup _] => simp [rng1]
  | [.lst _] => simp [rng1]
  | [.dct _ _] => simp [rng1]
  | [.obj _] => simp [rng1]
  | [.raw _] => simp [rng1]
  | [.scr _] => simp [rng1]
section
variable {G : Gr} {S : Sto} {n k : Nat}
theorem line_right (o : GrOk G) (h : n < G.ls.length) (hs : Src k S) : Ev NoE (m__law_line_right [.obj k, G.dt, .int n] S) fun r S' => r = .bl true ∧ Src k S' ∧ Fr k S S' := by
  have ol := o.ok _ (List.getElem_mem h)
  have d2 : ∀ S, gIx (G.ls[n]).dt (.int 2) S = some (rowD (G.ls[n]).g) := fun S => by unfold Ln.dt; rw [ix_row_tup]; rfl
  have d3 : ∀ S, gIx (G.ls[n]).dt (.int 3) S = some (rowD (G.ls[n]).t) := fun S => by unfold Ln.dt; rw [ix_row_tup]; rfl
  unfold m__law_line_right
  simp only [ev_def, ev_Then, ev_Put, ev_Set, ev_Rt, ev_Drop, ev_If, ev_B, ev_Not, ev_And, ev_Or, ev_AndV, ev_OrV, ev_NotV, ev_Chain, ev_m1, ev_m2, ev_mn, ev_cons, ev_nil, ev_var, ev_c, ev_P, ev_noP, ev_Sl, ev_New, ev_RepO, ev_call, ev_App, ev_mErr, ev_sNx, ev_Asg, ev_Aug, ev_Par2, ev_Par3, ev_For, ev_Walk, ev_Lc, ev_Dc, ev_Yes, ev_Try1, ev_ret, ev_ok, ev_exc, ev_new, ev_nx, ev_bnd, ev_rd, at1_eq, at2_eq, at3_eq, aft_nx, aft_rt, aft_bk, aft_ct, out_rt, out_nx, trn_nx, trn_bk, trn_ct, trn_rt, tru_bl, asInt_int, add_int, addI_int, sub_int, ML.neg_int', ML.lt_int', ML.le_int', ML.gt_int', ML.ge_int', max_int, min_int, int_int, len_tup, len_lst, tpl_lst, tpl_tup, ML.sum_tup, sum_lst, all_lst, ix_row_tup, ix_row_lst, ML.eq_int, ML.ne_int, row_tup, row_lst, nv0, List.map_cons, List.map_nil, List.length_cons, List.length_nil, List.length_map, List.replicate_succ, List.replicate_zero, List.cons_append, List.nil_append, List.set_cons_zero, List.set_cons_succ, List.getElem?_cons_zero, List.getElem?_cons_succ, Option.join_some, Option.some.injEq, exists_eq_left', decide_eq_true_eq, Nat.zero_add, true_and, and_true, if_true, if_false, Bool.not_eq_true', Bool.false_eq_true, Bool.true_eq_false, fTup, fLst, nLst, lines_at, line_at h]
  refine (pick_ev hs (by decide) (by decide)).imp ?_
  rintro _ S1 ⟨v1, rfl, a1, b1, hs1, fr1⟩
  refine (pick_ev hs1 (by decide) (by decide)).imp ?_
  rintro _ S2 ⟨v2, rfl, a2, b2, hs2, fr2⟩
  refine (pick_ev hs2 (by decide) (by decide)).imp ?_
  rintro _ S3 ⟨v3, rfl, a3, b3, hs3, fr3⟩
  have f03 : Fr k S S3 := (fr1.trans fr2).trans fr3
  refine ⟨_, rfl, _, rfl, _, rfl, ?_⟩
  refine ev_forGo (I := fun items ρ S4 => S4 = S3 ∧ (∀ d ∈ items, ∃ c : Int, d = .int c ∧ 0 ≤ c ∧ c ≤ 100000) ∧ ∃ x4, ρ = [some (.obj k), some G.dt, some (.int n), some (G.ls[n]).dt, x4, none, none, none, none, none, none, none]) ?_ ?_ _ _ _ ⟨rfl, ?_, none, rfl⟩
  · rintro d r ρ S4 ⟨rfl, hi, x4, rfl⟩
    obtain ⟨c, rfl, c0, c1⟩ := hi d List.mem_cons_self
    refine ⟨trivial, _, rfl, ?_⟩
    have p1 := pre_bound ol.g c0 (by omega)
    have p2 := pre_bound ol.t c0 (by omega)
    have big : (10 : Nat) ^ 15 < 2 ^ 200 := by decide
    simp only [ev_def, ev_Then, ev_Put, ev_Set, ev_Rt, ev_Drop, ev_If, ev_B, ev_Not, ev_And, ev_Or, ev_AndV, ev_OrV, ev_NotV, ev_Chain, ev_m1, ev_m2, ev_mn, ev_cons, ev_nil, ev_var, ev_c, ev_P, ev_noP, ev_Sl, ev_New, ev_RepO, ev_call, ev_App, ev_mErr, ev_sNx, ev_Asg, ev_Aug, ev_Par2, ev_Par3, ev_For, ev_Walk, ev_Lc, ev_Dc, ev_Yes, ev_Try1, ev_ret, ev_ok, ev_exc, ev_new, ev_nx, ev_bnd, ev_rd, at1_eq, at2_eq, at3_eq, aft_nx, aft_rt, aft_bk, aft_ct, out_rt, out_nx, trn_nx, trn_bk, trn_ct, trn_rt, tru_bl, asInt_int, add_int, addI_int, sub_int, ML.neg_int', ML.lt_int', ML.le_int', ML.gt_int', ML.ge_int', max_int, min_int, int_int, len_tup, len_lst, tpl_lst, tpl_tup, ML.sum_tup, sum_lst, all_lst, ix_row_tup, ix_row_lst, ML.eq_int, ML.ne_int, row_tup, row_lst, nv0, List.map_cons, List.map_nil, List.length_cons, List.length_nil, List.length_map, List.replicate_succ, List.replicate_zero, List.cons_append, List.nil_append, List.set_cons_zero, List.set_cons_succ, List.getElem?_cons_zero, List.getElem?_cons_succ, Option.join_some, Option.some.injEq, exists_eq_left', decide_eq_true_eq, Nat.zero_add, true_and, and_true, if_true, if_false, Bool.not_eq_true', Bool.false_eq_true, Bool.true_eq_false, fTup, fLst, nLst, eq_ev (gave_eq o h c0 c1), eq_ev (took_eq o h c0 c1), d2, d3, eq_ev (lsum_eq ol.g), eq_ev (lsum_eq ol.t), eq_ev (same_int (i := pre (G.ls[n]).g c) (by omega)), eq_ev (same_int (i := pre (G.ls[n]).t c) (by omega))]
    exact ⟨fun d hd => hi d (List.mem_cons_of_mem _ hd), _, rfl⟩
  · rintro ρ S4 ⟨rfl, hi, x4, rfl⟩
    refine ⟨trivial, ?_⟩
    simp only [ev_def, ev_Then, ev_Put, ev_Set, ev_Rt, ev_Drop, ev_If, ev_B, ev_Not, ev_And, ev_Or, ev_AndV, ev_OrV, ev_NotV, ev_Chain, ev_m1, ev_m2, ev_mn, ev_cons, ev_nil, ev_var, ev_c, ev_P, ev_noP, ev_Sl, ev_New, ev_RepO, ev_call, ev_App, ev_mErr, ev_sNx, ev_Asg, ev_Aug, ev_Par2, ev_Par3, ev_For, ev_Walk, ev_Lc, ev_Dc, ev_Yes, ev_Try1, ev_ret, ev_ok, ev_exc, ev_new, ev_nx, ev_bnd, ev_rd, at1_eq, at2_eq, at3_eq, aft_nx, aft_rt, aft_bk, aft_ct, out_rt, out_nx, trn_nx, trn_bk, trn_ct, trn_rt, tru_bl, asInt_int, add_int, addI_int, sub_int, ML.neg_int', ML.lt_int', ML.le_int', ML.gt_int', ML.ge_int', max_int, min_int, int_int, len_tup, len_lst, tpl_lst, tpl_tup, ML.sum_tup, sum_lst, all_lst, ix_row_tup, ix_row_lst, ML.eq_int, ML.ne_int, row_tup, row_lst, nv0, List.map_cons, List.map_nil, List.length_cons, List.length_nil, List.length_map, List.replicate_succ, List.replicate_zero, List.cons_append, List.nil_append, List.set_cons_zero, List.set_cons_succ, List.getElem?_cons_zero, List.getElem?_cons_succ, Option.join_some, Option.some.injEq, exists_eq_left', decide_eq_true_eq, Nat.zero_add, true_and, and_true, if_true, if_false, Bool.not_eq_true', Bool.false_eq_true, Bool.true_eq_false, fTup, fLst, nLst, ev_Rng1, rng1_eq]
    refine ⟨by decide, ?_⟩
    refine ev_forGo (I := fun items ρ S5 => Src k S5 ∧ Fr k S S5 ∧ ∃ x5 x7 x8 x9, ρ = [some (.obj k), some G.dt, some (.int n), some (G.ls[n]).dt, x4, x5, none, x7, x8, x9, none, none]) ?_ ?_ _ _ _ ⟨hs3, f03, none, none, none, none, rfl⟩
    · rintro d r ρ S5 ⟨hs5, f5, x5, x7, x8, x9, rfl⟩
      refine ⟨trivial, _, rfl, ?_⟩
      simp only [ev_def, ev_Then, ev_Put, ev_Set, ev_Rt, ev_Drop, ev_If, ev_B, ev_Not, ev_And, ev_Or, ev_AndV, ev_OrV, ev_NotV, ev_Chain, ev_m1, ev_m2, ev_mn, ev_cons, ev_nil, ev_var, ev_c, ev_P, ev_noP, ev_Sl, ev_New, ev_RepO, ev_call, ev_App, ev_mErr, ev_sNx, ev_Asg, ev_Aug, ev_Par2, ev_Par3, ev_For, ev_Walk, ev_Lc, ev_Dc, ev_Yes, ev_Try1, ev_ret, ev_ok, ev_exc, ev_new, ev_nx, ev_bnd, ev_rd, at1_eq, at2_eq, at3_eq, aft_nx, aft_rt, aft_bk, aft_ct, out_rt, out_nx, trn_nx, trn_bk, trn_ct, trn_rt, tru_bl, asInt_int, add_int, addI_int, sub_int, ML.neg_int', ML.lt_int', ML.le_int', ML.gt_int', ML.ge_int', max_int, min_int, int_int, len_tup, len_lst, tpl_lst, tpl_tup, ML.sum_tup, sum_lst, all_lst, ix_row_tup, ix_row_lst, ML.eq_int, ML.ne_int, row_tup, row_lst, nv0, List.map_cons, List.map_nil, List.length_cons, List.length_nil, List.length_map, List.replicate_succ, List.replicate_zero, List.cons_append, List.nil_append, List.set_cons_zero, List.set_cons_succ, List.getElem?_cons_zero, List.getElem?_cons_succ, Option.join_some, Option.some.injEq, exists_eq_left', decide_eq_true_eq, Nat.zero_add, true_and, and_true, if_true, if_false, Bool.not_eq_true', Bool.false_eq_true, Bool.true_eq_false, fTup, fLst, nLst]
      refine (pick_ev hs5 (by decide) (by decide)).imp ?_
      rintro _ S6 ⟨w1, rfl, c1, e1, hs6, fr6⟩
      refine (pick_ev hs6 (by decide) (by decide)).imp ?_
      rintro _ S7 ⟨w2, rfl, c2, e2, hs7, fr7⟩
      refine (pick_ev hs7 (by decide) (by decide)).imp ?_
      rintro _ S8 ⟨w3, rfl, c3, e3, hs8, fr8⟩
      refine ⟨_, rfl, _, rfl, ?_⟩
      refine (one_ev hs8 (by simp) (by simp)).imp ?_
      rintro fd S9 ⟨hfd, hs9, fr9⟩
      have hf : ∃ f : Int, fd = .int f ∧ 0 ≤ f ∧ f ≤ 100000 := by
        simp only [List.mem_cons, List.not_mem_nil, or_false] at hfd
        rcases hfd with rfl | rfl | rfl | rfl | rfl
        · exact ⟨0, rfl, by omega, by omega⟩
        · exact ⟨100000, rfl, by omega, by omega⟩
        · exact ⟨w1, rfl, by omega, by omega⟩
        · exact ⟨w2, rfl, by omega, by omega⟩
        · exact ⟨100000 - w3, rfl, by omega, by omega⟩
      obtain ⟨f, rfl, f0, f1⟩ := hf
      refine (rise_ev ol f0 f1).imp ?_
      rintro _ S10 ⟨⟨lt, rfl, lt0, lt1⟩, rfl⟩
      simp only [ev_def, ev_Then, ev_Put, ev_Set, ev_Rt, ev_Drop, ev_If, ev_B, ev_Not, ev_And, ev_Or, ev_AndV, ev_OrV, ev_NotV, ev_Chain, ev_m1, ev_m2, ev_mn, ev_cons, ev_nil, ev_var, ev_c, ev_P, ev_noP, ev_Sl, ev_New, ev_RepO, ev_call, ev_App, ev_mErr, ev_sNx, ev_Asg, ev_Aug, ev_Par2, ev_Par3, ev_For, ev_Walk, ev_Lc, ev_Dc, ev_Yes, ev_Try1, ev_ret, ev_ok, ev_exc, ev_new, ev_nx, ev_bnd, ev_rd, at1_eq, at2_eq, at3_eq, aft_nx, aft_rt, aft_bk, aft_ct, out_rt, out_nx, trn_nx, trn_bk, trn_ct, trn_rt, tru_bl, asInt_int, add_int, addI_int, sub_int, ML.neg_int', ML.lt_int', ML.le_int', ML.gt_int', ML.ge_int', max_int, min_int, int_int, len_tup, len_lst, tpl_lst, tpl_tup, ML.sum_tup, sum_lst, all_lst, ix_row_tup, ix_row_lst, ML.eq_int, ML.ne_int, row_tup, row_lst, nv0, List.map_cons, List.map_nil, List.length_cons, List.length_nil, List.length_map, List.replicate_succ, List.replicate_zero, List.cons_append, List.nil_append, List.set_cons_zero, List.set_cons_succ, List.getElem?_cons_zero, List.getElem?_cons_succ, Option.join_some, Option.some.injEq, exists_eq_left', decide_eq_true_eq, Nat.zero_add, true_and, and_true, if_true, if_false, Bool.not_eq_true', Bool.false_eq_true, Bool.true_eq_false, fTup, fLst, nLst]
      refine (pick_ev hs9 (by decide) (by decide)).imp ?_
      rintro _ S11 ⟨w4, rfl, c4, e4, hs11, fr11⟩
      refine ⟨_, rfl, _, rfl, _, rfl, ?_⟩
      have f11 : Fr k S S11 := ((((f5.trans fr6).trans fr7).trans fr8).trans fr9).trans fr11
      refine ev_forGo (I := fun items ρ S12 => S12 = S11 ∧ (∀ d ∈ items, ∃ c : Int, d = .int c ∧ 0 ≤ c ∧ c ≤ 100000) ∧ ∃ x9, ρ = [some (.obj k), some G.dt, some (.int n), some (G.ls[n]).dt, x4, some d, none, some (.int f), some (.int lt), x9, none, none]) ?_ ?_ _ _ _ ⟨rfl, ?_, x9, rfl⟩
      · rintro d' r' ρ' S12 ⟨rfl, hi', x9', rfl⟩
        obtain ⟨c, rfl, g0, g1⟩ := hi' d' List.mem_cons_self
        refine ⟨trivial, _, rfl, ?_⟩
        simp only [ev_def, ev_Then, ev_Put, ev_Set, ev_Rt, ev_Drop, ev_If, ev_B, ev_Not, ev_And, ev_Or, ev_AndV, ev_OrV, ev_NotV, ev_Chain, ev_m1, ev_m2, ev_mn, ev_cons, ev_nil, ev_var, ev_c, ev_P, ev_noP, ev_Sl, ev_New, ev_RepO, ev_call, ev_App, ev_mErr, ev_sNx, ev_Asg, ev_Aug, ev_Par2, ev_Par3, ev_For, ev_Walk, ev_Lc, ev_Dc, ev_Yes, ev_Try1, ev_ret, ev_ok, ev_exc, ev_new, ev_nx, ev_bnd, ev_rd, at1_eq, at2_eq, at3_eq, aft_nx, aft_rt, aft_bk, aft_ct, out_rt, out_nx, trn_nx, trn_bk, trn_ct, trn_rt, tru_bl, asInt_int, add_int, addI_int, sub_int, ML.neg_int', ML.lt_int', ML.le_int', ML.gt_int', ML.ge_int', max_int, min_int, int_int, len_tup, len_lst, tpl_lst, tpl_tup, ML.sum_tup, sum_lst, all_lst, ix_row_tup, ix_row_lst, ML.eq_int, ML.ne_int, row_tup, row_lst, nv0, List.map_cons, List.map_nil, List.length_cons, List.length_nil, List.length_map, List.replicate_succ, List.replicate_zero, List.cons_append, List.nil_append, List.set_cons_zero, List.set_cons_succ, List.getElem?_cons_zero, List.getElem?_cons_succ, Option.join_some, Option.some.injEq, exists_eq_left', decide_eq_true_eq, Nat.zero_add, true_and, and_true, if_true, if_false, Bool.not_eq_true', Bool.false_eq_true, Bool.true_eq_false, fTup, fLst, nLst, eq_ev (need_right o h g0 g1)]
        exact ⟨fun d hd => hi' d (List.mem_cons_of_mem _ hd), _, rfl⟩
      · rintro ρ' S12 ⟨rfl, hi', x9', rfl⟩
        exact ⟨trivial, hs11, f11, _, _, _, _, rfl⟩
      · intro d hd
        simp only [List.mem_cons, List.not_mem_nil, or_false] at hd
        rcases hd with rfl | rfl | rfl | rfl
        · exact ⟨f, rfl, f0, f1⟩
        · exact ⟨lt, rfl, lt0, lt1⟩
        · refine ⟨_, rfl, ?_, ?_⟩ <;> split <;> omega
        · exact ⟨100000 - w4, rfl, by omega, by omega⟩
    · rintro ρ S5 ⟨hs5, f5, x5, x7, x8, x9, rfl⟩
      refine ⟨trivial, ?_⟩
      have hg := ol.g.pos
      have ht := ol.t.pos
      have hg2 := ol.g.sum_le
      have ht2 := ol.t.sum_le
      have hgl := ol.g.few
      have htl := ol.t.few
      simp only [ev_def, ev_Then, ev_Put, ev_Set, ev_Rt, ev_Drop, ev_If, ev_B, ev_Not, ev_And, ev_Or, ev_AndV, ev_OrV, ev_NotV, ev_Chain, ev_m1, ev_m2, ev_mn, ev_cons, ev_nil, ev_var, ev_c, ev_P, ev_noP, ev_Sl, ev_New, ev_RepO, ev_call, ev_App, ev_mErr, ev_sNx, ev_Asg, ev_Aug, ev_Par2, ev_Par3, ev_For, ev_Walk, ev_Lc, ev_Dc, ev_Yes, ev_Try1, ev_ret, ev_ok, ev_exc, ev_new, ev_nx, ev_bnd, ev_rd, at1_eq, at2_eq, at3_eq, aft_nx, aft_rt, aft_bk, aft_ct, out_rt, out_nx, trn_nx, trn_bk, trn_ct, trn_rt, tru_bl, asInt_int, add_int, addI_int, sub_int, ML.neg_int', ML.lt_int', ML.le_int', ML.gt_int', ML.ge_int', max_int, min_int, int_int, len_tup, len_lst, tpl_lst, tpl_tup, ML.sum_tup, sum_lst, all_lst, ix_row_tup, ix_row_lst, ML.eq_int, ML.ne_int, row_tup, row_lst, nv0, List.map_cons, List.map_nil, List.length_cons, List.length_nil, List.length_map, List.replicate_succ, List.replicate_zero, List.cons_append, List.nil_append, List.set_cons_zero, List.set_cons_succ, List.getElem?_cons_zero, List.getElem?_cons_succ, Option.join_some, Option.some.injEq, exists_eq_left', decide_eq_true_eq, Nat.zero_add, true_and, and_true, if_true, if_false, Bool.not_eq_true', Bool.false_eq_true, Bool.true_eq_false, fTup, fLst, nLst, d2, d3]
      refine (shared_ev hg ht ht2).imp ?_
      rintro _ S6 ⟨⟨sh, rfl, sh0, ⟨u, hu⟩, ⟨w, hw⟩⟩, rfl⟩
      have hsl : sh ≤ (G.ls[n]).g.sum := Int.le_of_dvd hg ⟨u, hu⟩
      have u0 : 0 < u := by
        refine Int.not_le.mp fun z => ?_
        have := Int.mul_nonpos_of_nonneg_of_nonpos (Int.le_of_lt sh0) z
        omega
      have w0 : 0 < w := by
        refine Int.not_le.mp fun z => ?_
        have := Int.mul_nonpos_of_nonneg_of_nonpos (Int.le_of_lt sh0) z
        omega
      have u1 : u ≤ 216 := by
        have : 1 * u ≤ sh * u := Int.mul_le_mul_of_nonneg_right (by omega) (by omega)
        omega
      have w1 : w ≤ 216 := by
        have : 1 * w ≤ sh * w := Int.mul_le_mul_of_nonneg_right (by omega) (by omega)
        omega
      have q1 : ∀ S, bDiv (.int (G.ls[n]).g.sum) (.int sh) S = some (.int u) := fun S => by
        rw [div_int sh0 (by omega), hu, Int.mul_ediv_cancel_left _ (by omega)]
      have q2 : ∀ S, bDiv (.int (G.ls[n]).t.sum) (.int sh) S = some (.int w) := fun S => by
        rw [div_int sh0 (by omega), hw, Int.mul_ediv_cancel_left _ (by omega)]
      have q3 : ∀ S (x : Int), bMul (.int u) (.int x) S = some (.int (u * x)) := fun _ _ => mul_intL (by omega) (by omega)
      have q4 : ∀ S (x : Int), bMul (.int w) (.int x) S = some (.int (w * x)) := fun _ _ => mul_intL (by omega) (by omega)
      have m0 : 0 ≤ u * ((G.ls[n]).t.length : Int) := Int.mul_nonneg (by omega) (by omega)
      simp only [ev_def, ev_Then, ev_Put, ev_Set, ev_Rt, ev_Drop, ev_If, ev_B, ev_Not, ev_And, ev_Or, ev_AndV, ev_OrV, ev_NotV, ev_Chain, ev_m1, ev_m2, ev_mn, ev_cons, ev_nil, ev_var, ev_c, ev_P, ev_noP, ev_Sl, ev_New, ev_RepO, ev_call, ev_App, ev_mErr, ev_sNx, ev_Asg, ev_Aug, ev_Par2, ev_Par3, ev_For, ev_Walk, ev_Lc, ev_Dc, ev_Yes, ev_Try1, ev_ret, ev_ok, ev_exc, ev_new, ev_nx, ev_bnd, ev_rd, at1_eq, at2_eq, at3_eq, aft_nx, aft_rt, aft_bk, aft_ct, out_rt, out_nx, trn_nx, trn_bk, trn_ct, trn_rt, tru_bl, asInt_int, add_int, addI_int, sub_int, ML.neg_int', ML.lt_int', ML.le_int', ML.gt_int', ML.ge_int', max_int, min_int, int_int, len_tup, len_lst, tpl_lst, tpl_tup, ML.sum_tup, sum_lst, all_lst, ix_row_tup, ix_row_lst, ML.eq_int, ML.ne_int, row_tup, row_lst, nv0, List.map_cons, List.map_nil, List.length_cons, List.length_nil, List.length_map, List.replicate_succ, List.replicate_zero, List.cons_append, List.nil_append, List.set_cons_zero, List.set_cons_succ, List.getElem?_cons_zero, List.getElem?_cons_succ, Option.join_some, Option.some.injEq, exists_eq_left', decide_eq_true_eq, Nat.zero_add, true_and, and_true, if_true, if_false, Bool.not_eq_true', Bool.false_eq_true, Bool.true_eq_false, fTup, fLst, nLst, q1, q2, q3, q4]
      by_cases z : u * ((G.ls[n]).t.length : Int) < 100000
      · rw [if_pos z]
        refine (pick_ev hs5 (by omega) (by omega)).imp ?_
        rintro _ S7 ⟨f, rfl, f0, f1, hs7, fr7⟩
        simp only [ev_def, ev_Then, ev_Put, ev_Set, ev_Rt, ev_Drop, ev_If, ev_B, ev_Not, ev_And, ev_Or, ev_AndV, ev_OrV, ev_NotV, ev_Chain, ev_m1, ev_m2, ev_mn, ev_cons, ev_nil, ev_var, ev_c, ev_P, ev_noP, ev_Sl, ev_New, ev_RepO, ev_call, ev_App, ev_mErr, ev_sNx, ev_Asg, ev_Aug, ev_Par2, ev_Par3, ev_For, ev_Walk, ev_Lc, ev_Dc, ev_Yes, ev_Try1, ev_ret, ev_ok, ev_exc, ev_new, ev_nx, ev_bnd, ev_rd, at1_eq, at2_eq, at3_eq, aft_nx, aft_rt, aft_bk, aft_ct, out_rt, out_nx, trn_nx, trn_bk, trn_ct, trn_rt, tru_bl, asInt_int, add_int, addI_int, sub_int, ML.neg_int', ML.lt_int', ML.le_int', ML.gt_int', ML.ge_int', max_int, min_int, int_int, len_tup, len_lst, tpl_lst, tpl_tup, ML.sum_tup, sum_lst, all_lst, ix_row_tup, ix_row_lst, ML.eq_int, ML.ne_int, row_tup, row_lst, nv0, List.map_cons, List.map_nil, List.length_cons, List.length_nil, List.length_map, List.replicate_succ, List.replicate_zero, List.cons_append, List.nil_append, List.set_cons_zero, List.set_cons_succ, List.getElem?_cons_zero, List.getElem?_cons_succ, Option.join_some, Option.some.injEq, exists_eq_left', decide_eq_true_eq, Nat.zero_add, true_and, and_true, if_true, if_false, Bool.not_eq_true', Bool.false_eq_true, Bool.true_eq_false, fTup, fLst, nLst, eq_ev (far_eq ol), eq_ev (need_eq o h (c := f + u * ((G.ls[n]).t.length : Int)) (by omega) (by omega)), eq_ev (need_eq o h (c := f) (by omega) (by omega))]
        by_cases y : 0 < far (G.ls[n]).g ((G.ls[n]).goal f)
        · rw [if_pos y]
          have e1 : (G.ls[n]).goal (f + u * ((G.ls[n]).t.length : Int)) = (G.ls[n]).goal f + w * (G.ls[n]).g.sum := by
            unfold Ln.goal
            rw [show f + u * ((G.ls[n]).t.length : Int) + 1 = f + 1 + u * ((G.ls[n]).t.length : Int) by omega, pre_rounds ol.t, hu, hw, show u * (sh * w) = w * (sh * u) by rw [Int.mul_left_comm, Int.mul_left_comm w, Int.mul_comm u w]]
            omega
          have e2 : (G.ls[n]).nd (f + u * ((G.ls[n]).t.length : Int)) = (G.ls[n]).nd f + w * ((G.ls[n]).g.length : Int) := by
            have l0 : 0 ≤ w * ((G.ls[n]).g.length : Int) := Int.mul_nonneg (by omega) (by omega)
            unfold Ln.nd
            rw [e1, far_rounds ol.g, if_pos (by omega), if_pos (by omega)]
          simp only [e2, decide_true, Bool.not_true, ev_def, ev_Then, ev_Put, ev_Set, ev_Rt, ev_Drop, ev_If, ev_B, ev_Not, ev_And, ev_Or, ev_AndV, ev_OrV, ev_NotV, ev_Chain, ev_m1, ev_m2, ev_mn, ev_cons, ev_nil, ev_var, ev_c, ev_P, ev_noP, ev_Sl, ev_New, ev_RepO, ev_call, ev_App, ev_mErr, ev_sNx, ev_Asg, ev_Aug, ev_Par2, ev_Par3, ev_For, ev_Walk, ev_Lc, ev_Dc, ev_Yes, ev_Try1, ev_ret, ev_ok, ev_exc, ev_new, ev_nx, ev_bnd, ev_rd, at1_eq, at2_eq, at3_eq, aft_nx, aft_rt, aft_bk, aft_ct, out_rt, out_nx, trn_nx, trn_bk, trn_ct, trn_rt, tru_bl, asInt_int, add_int, addI_int, sub_int, ML.neg_int', ML.lt_int', ML.le_int', ML.gt_int', ML.ge_int', max_int, min_int, int_int, len_tup, len_lst, tpl_lst, tpl_tup, ML.sum_tup, sum_lst, all_lst, ix_row_tup, ix_row_lst, ML.eq_int, ML.ne_int, row_tup, row_lst, nv0, List.map_cons, List.map_nil, List.length_cons, List.length_nil, List.length_map, List.replicate_succ, List.replicate_zero, List.cons_append, List.nil_append, List.set_cons_zero, List.set_cons_succ, List.getElem?_cons_zero, List.getElem?_cons_succ, Option.join_some, Option.some.injEq, exists_eq_left', decide_eq_true_eq, Nat.zero_add, true_and, and_true, if_true, if_false, Bool.not_eq_true', Bool.false_eq_true, Bool.true_eq_false, fTup, fLst, nLst]
          exact ⟨hs7, f5.trans fr7⟩
        · rw [if_neg y]
          exact ⟨hs7, f5.trans fr7⟩
      · rw [if_neg z]
        exact ⟨hs5, f5⟩
  · intro d hd
    simp only [List.mem_cons, List.not_mem_nil, or_false] at hd
    rcases hd with rfl | rfl | rfl | rfl | rfl | rfl
    · exact ⟨0, rfl, by omega, by omega⟩
    · exact ⟨1, rfl, by omega, by omega⟩
    · exact ⟨100000, rfl, by omega, by omega⟩
    · exact ⟨v1, rfl, by omega, by omega⟩
    · exact ⟨v2, rfl, by omega, by omega⟩
    · exact ⟨99999 - v3, rfl, by omega, by omega⟩
end
end Plain

set_option Elab.async false
set_option linter.all false
set_option maxRecDepth 100000
set_option maxHeartbeats 1000000
namespace Plain
open PySem PySem.Spec L2 ML Walk

theorem Src.on {n : Nat} {S S' : Sto} (h : Src n S) (e : S'[n]? = S[n]?) : Src n S' := by
  obtain ⟨c, d, s, m, h1, r⟩ := h
  exact ⟨c, d, s, m, e.trans h1, r⟩
theorem Src.lt {n : Nat} {S : Sto} (h : Src n S) : n < S.length := by
  obtain ⟨c, d, s, m, h1, r⟩ := h
  exact lt_of h1
/-- a new object -/
theorem Src.push {n : Nat} {S : Sto} (h : Src n S) (o : Ob) : Src n (S ++ [o]) := h.on (List.getElem?_append_left h.lt)
theorem Fr.push (n : Nat) (S : Sto) (o : Ob) : Fr n S (S ++ [o]) := ⟨by simp, fun j h _ => List.getElem?_append_left h⟩
theorem at_push (S : Sto) (o : Ob) : (S ++ [o])[S.length]? = some o := by simp
/-- another object is changed -/
theorem Src.put {n m : Nat} {S : Sto} (h : Src n S) (hm : m ≠ n) (o : Ob) : Src n (S.set m o) := h.on (List.getElem?_set_ne hm)
theorem Fr.put {n m : Nat} {S0 S : Sto} (f : Fr n S0 S) (hm : S0.length ≤ m) (o : Ob) : Fr n S0 (S.set m o) :=
  ⟨by simpa using f.len, fun j h hn => (List.getElem?_set_ne (by omega)).trans (f.at_ j h hn)⟩
theorem Fr.obj {n m : Nat} {S S' : Sto} {o : Ob} (f : Fr n S S') (h : S[m]? = some o) (hm : m ≠ n) : S'[m]? = some o := (f.at_ m (lt_of h) hm).trans h
/-! ### names -/
def keys : Str := "qwertyuiopasdfghjklzxcvbnm"
def tails : List Str := ["", "", "0", "9z", "x7x7x7x", "in5"]
def nmL (i : Int) : Nat := keys.cps.toList.getD (i % 26).toNat 0
def nmS (i : Int) (t : Str) : Str := (⟨#[nmL i]⟩ : Str) ++ t
theorem key_at (i : Int) (S : Sto) : gIx (.str "qwertyuiopasdfghjklzxcvbnm") (.int (i % 26)) S = some (.str ⟨#[nmL i]⟩) := by
  have h0 := Int.emod_nonneg i (show (26 : Int) ≠ 0 by decide)
  have h1 := Int.emod_lt_of_pos i (show (0 : Int) < 26 by decide)
  have hl : keys.cps.toList.length = 26 := by decide +kernel
  refine ix_str (z := keys) (by decide +kernel) ?_
  rw [atI_pos h0 (by omega)]
  unfold nmL
  rw [List.getD_eq_getElem?_getD, List.getElem?_eq_getElem (by omega)]
  rfl
theorem names_ok : ∀ j, j < 26 → ∀ t ∈ tails, nameOk ((⟨#[keys.cps.toList.getD j 0]⟩ : Str) ++ t) = true := by decide +kernel
theorem tails_few : ∀ t ∈ tails, t.length ≤ 7 := by decide +kernel
theorem keys_inj : ∀ i, i < 26 → ∀ j, j < 26 → keys.cps.toList.getD i 0 = keys.cps.toList.getD j 0 → i = j := by decide +kernel
theorem nm_ok (i : Int) {t : Str} (h : t ∈ tails) : nameOk (nmS i t) = true := by
  have h0 := Int.emod_nonneg i (show (26 : Int) ≠ 0 by decide)
  have h1 := Int.emod_lt_of_pos i (show (0 : Int) < 26 by decide)
  exact names_ok _ (by omega) t h
theorem cps_app (x y : Str) : (x ++ y).cps.toList = x.cps.toList ++ y.cps.toList := by
  show (x.cps ++ y.cps).toList = _
  exact Array.toList_append
theorem nm_ne {i j : Int} {t u : Str} (h : i % 26 ≠ j % 26) : nmS i t ≠ nmS j u := by
  intro e
  have e1 := congrArg (fun s : Str => s.cps.toList.head?) e
  simp only [nmS, cps_app] at e1
  have e2 : nmL i = nmL j := Option.some.inj e1
  have a0 := Int.emod_nonneg i (show (26 : Int) ≠ 0 by decide)
  have a1 := Int.emod_lt_of_pos i (show (0 : Int) < 26 by decide)
  have b0 := Int.emod_nonneg j (show (26 : Int) ≠ 0 by decide)
  have b1 := Int.emod_lt_of_pos j (show (0 : Int) < 26 by decide)
  have := keys_inj _ (by omega) _ (by omega) e2
  omega
theorem called_ev {k : Nat} {S : Sto} (hs : Src k S) : Ev NoE (m__law_called [.obj k, .int 2] S) fun r S' => (∃ a b, r = .tup [.str a, .str b] ∧ nameOk a = true ∧ nameOk b = true ∧ a ≠ b) ∧ Src k S' ∧ Fr k S S' := by
  have hk : S.length ≠ k := by have := hs.lt; omega
  unfold m__law_called
  simp only [ev_def, ev_Then, ev_Put, ev_Set, ev_Rt, ev_Drop, ev_If, ev_B, ev_Not, ev_And, ev_Or, ev_AndV, ev_OrV, ev_NotV, ev_Chain, ev_m1, ev_m2, ev_mn, ev_cons, ev_nil, ev_var, ev_c, ev_P, ev_noP, ev_Sl, ev_New, ev_RepO, ev_call, ev_App, ev_mErr, ev_sNx, ev_Asg, ev_Aug, ev_Par2, ev_Par3, ev_For, ev_Walk, ev_Lc, ev_Dc, ev_Yes, ev_Try1, ev_ret, ev_ok, ev_exc, ev_new, ev_nx, ev_bnd, ev_rd, at1_eq, at2_eq, at3_eq, aft_nx, aft_rt, aft_bk, aft_ct, out_rt, out_nx, trn_nx, trn_bk, trn_ct, trn_rt, tru_bl, asInt_int, add_int, addI_int, sub_int, ML.neg_int', ML.lt_int', ML.le_int', ML.gt_int', ML.ge_int', max_int, min_int, int_int, len_tup, len_lst, tpl_lst, tpl_tup, ML.sum_tup, sum_lst, all_lst, ix_row_tup, ix_row_lst, ML.eq_int, ML.ne_int, row_tup, row_lst, nv0, List.map_cons, List.map_nil, List.length_cons, List.length_nil, List.length_map, List.replicate_succ, List.replicate_zero, List.cons_append, List.nil_append, List.set_cons_zero, List.set_cons_succ, List.getElem?_cons_zero, List.getElem?_cons_succ, Option.join_some, Option.some.injEq, exists_eq_left', decide_eq_true_eq, Nat.zero_add, true_and, and_true, if_true, if_false, Bool.not_eq_true', Bool.false_eq_true, Bool.true_eq_false]
  refine ⟨_, rfl, _, rfl, ?_⟩
  refine (pick_ev (hs.push _) (by decide) (by decide)).imp ?_
  rintro _ S1 ⟨v1, rfl, a1, b1, hs1, fr1⟩
  refine ⟨_, rfl, ?_⟩
  refine (one_ev hs1 (by simp) (by simp)).imp ?_
  rintro sd S2 ⟨hsd, hs2, fr2⟩
  have hst : ∃ st : Int, sd = .int st ∧ st % 26 ≠ 0 := by
    simp only [List.mem_cons, List.not_mem_nil, or_false] at hsd
    rcases hsd with rfl | rfl | rfl | rfl | rfl | rfl | rfl | rfl | rfl | rfl | rfl | rfl <;> exact ⟨_, rfl, by decide⟩
  obtain ⟨st, rfl, hst⟩ := hst
  have h2 : S2[S.length]? = some (.lst []) := (fr1.trans fr2).obj (at_push S _) hk
  have f2 : Fr k S S2 := ((Fr.push k S _).trans fr1).trans fr2
  simp only [ev_def, ev_Then, ev_Put, ev_Set, ev_Rt, ev_Drop, ev_If, ev_B, ev_Not, ev_And, ev_Or, ev_AndV, ev_OrV, ev_NotV, ev_Chain, ev_m1, ev_m2, ev_mn, ev_cons, ev_nil, ev_var, ev_c, ev_P, ev_noP, ev_Sl, ev_New, ev_RepO, ev_call, ev_App, ev_mErr, ev_sNx, ev_Asg, ev_Aug, ev_Par2, ev_Par3, ev_For, ev_Walk, ev_Lc, ev_Dc, ev_Yes, ev_Try1, ev_ret, ev_ok, ev_exc, ev_new, ev_nx, ev_bnd, ev_rd, at1_eq, at2_eq, at3_eq, aft_nx, aft_rt, aft_bk, aft_ct, out_rt, out_nx, trn_nx, trn_bk, trn_ct, trn_rt, tru_bl, asInt_int, add_int, addI_int, sub_int, ML.neg_int', ML.lt_int', ML.le_int', ML.gt_int', ML.ge_int', max_int, min_int, int_int, len_tup, len_lst, tpl_lst, tpl_tup, ML.sum_tup, sum_lst, all_lst, ix_row_tup, ix_row_lst, ML.eq_int, ML.ne_int, row_tup, row_lst, nv0, List.map_cons, List.map_nil, List.length_cons, List.length_nil, List.length_map, List.replicate_succ, List.replicate_zero, List.cons_append, List.nil_append, List.set_cons_zero, List.set_cons_succ, List.getElem?_cons_zero, List.getElem?_cons_succ, Option.join_some, Option.some.injEq, exists_eq_left', decide_eq_true_eq, Nat.zero_add, true_and, and_true, if_true, if_false, Bool.not_eq_true', Bool.false_eq_true, Bool.true_eq_false, ev_Rng1, rng1_eq]
  refine ⟨by decide, ?_⟩
  have turn : ∀ (i : Int) (dn : List Dt) (S3 : Sto) (x2 : Option Dt) (Q : Fl → Sto → Prop), -5 < i → i < 5 → dn.length ≤ 5 → Src k S3 → Fr k S S3 → S3[S.length]? = some (.lst dn) →
      (∀ t ∈ tails, ∀ S4, Src k S4 → Fr k S S4 → S4[S.length]? = some (.lst (dn ++ [.str (nmS (v1 + i * st) t)])) → Q (.nx [some (Dt.obj k), some (Dt.int 2), some (.int i), some (Dt.str "qwertyuiopasdfghjklzxcvbnm"), some (Dt.tup [Dt.str "", Dt.str "", Dt.str "0", Dt.str "9z", Dt.str "x7x7x7x", Dt.str "in5"]), some (Dt.obj S.length), some (Dt.int v1), some (Dt.int st)]) S4) →
      Ev NoE ((mDrop
          (mApp (mVar 5)
            (mCons
              (m2 bAdd
                (m2 gIx (mVar 3)
                  (m2 bMod (mn fInt (mCons (m2 bAdd (mVar 6) (m2 bMul (mVar 2) (mVar 7))) mNil)) (mC (Dt.int 26))))
                (mCall 2 m__law_one (mCons (mVar 0) (mCons (mVar 4) mNil))))
              mNil))) [some (Dt.obj k), some (Dt.int 2), some (.int i), some (Dt.str "qwertyuiopasdfghjklzxcvbnm"), some (Dt.tup [Dt.str "", Dt.str "", Dt.str "0", Dt.str "9z", Dt.str "x7x7x7x", Dt.str "in5"]), some (Dt.obj S.length), some (Dt.int v1), some (Dt.int st)] S3) Q := by
    intro i dn S3 x2 Q i0 i1 dl hs3 f3 h3 q
    simp only [ev_def, ev_Then, ev_Put, ev_Set, ev_Rt, ev_Drop, ev_If, ev_B, ev_Not, ev_And, ev_Or, ev_AndV, ev_OrV, ev_NotV, ev_Chain, ev_m1, ev_m2, ev_mn, ev_cons, ev_nil, ev_var, ev_c, ev_P, ev_noP, ev_Sl, ev_New, ev_RepO, ev_call, ev_App, ev_mErr, ev_sNx, ev_Asg, ev_Aug, ev_Par2, ev_Par3, ev_For, ev_Walk, ev_Lc, ev_Dc, ev_Yes, ev_Try1, ev_ret, ev_ok, ev_exc, ev_new, ev_nx, ev_bnd, ev_rd, at1_eq, at2_eq, at3_eq, aft_nx, aft_rt, aft_bk, aft_ct, out_rt, out_nx, trn_nx, trn_bk, trn_ct, trn_rt, tru_bl, asInt_int, add_int, addI_int, sub_int, ML.neg_int', ML.lt_int', ML.le_int', ML.gt_int', ML.ge_int', max_int, min_int, int_int, len_tup, len_lst, tpl_lst, tpl_tup, ML.sum_tup, sum_lst, all_lst, ix_row_tup, ix_row_lst, ML.eq_int, ML.ne_int, row_tup, row_lst, nv0, List.map_cons, List.map_nil, List.length_cons, List.length_nil, List.length_map, List.replicate_succ, List.replicate_zero, List.cons_append, List.nil_append, List.set_cons_zero, List.set_cons_succ, List.getElem?_cons_zero, List.getElem?_cons_succ, Option.join_some, Option.some.injEq, exists_eq_left', decide_eq_true_eq, Nat.zero_add, true_and, and_true, if_true, if_false, Bool.not_eq_true', Bool.false_eq_true, Bool.true_eq_false, objL_lst h3, mul_intL (i := i) (j := st) (by omega) (by omega), mod_int (j := 26) (by decide), key_at]
    refine ⟨(), ?_⟩
    refine (oneT_ev hs3 (by simp) (by simp)).imp ?_
    rintro td S4 ⟨ht, hs4, fr4⟩
    have htt : ∃ t ∈ tails, td = .str t := by
      simp only [List.mem_cons, List.not_mem_nil, or_false] at ht
      rcases ht with rfl | rfl | rfl | rfl | rfl | rfl <;> exact ⟨_, by decide, rfl⟩
    obtain ⟨t, hm, rfl⟩ := htt
    have h4 : S4[S.length]? = some (.lst dn) := fr4.obj h3 hk
    refine ⟨_, add_str (x := ⟨#[nmL (v1 + i * st)]⟩) (y := t) (by have := tails_few t hm; show 1 + t.length ≤ cap; unfold cap; omega), _, app_lst h4 (by unfold cap; omega), ?_⟩
    exact q t hm _ (hs4.put hk _) ((f3.trans fr4).put (Nat.le_refl _) _) (at_set (lt_of h4))
  refine ev_forGo (I := fun items ρ S3 => ∃ (x2 : Option Dt) (dn : List Dt), Src k S3 ∧ Fr k S S3 ∧ S3[S.length]? = some (.lst dn) ∧ ρ = [some (Dt.obj k), some (Dt.int 2), x2, some (Dt.str "qwertyuiopasdfghjklzxcvbnm"), some (Dt.tup [Dt.str "", Dt.str "", Dt.str "0", Dt.str "9z", Dt.str "x7x7x7x", Dt.str "in5"]), some (Dt.obj S.length), some (Dt.int v1), some (Dt.int st)] ∧
    ((items = [.int 0, .int 1] ∧ dn = []) ∨ (items = [.int 1] ∧ ∃ t ∈ tails, dn = [.str (nmS (v1 + 0 * st) t)]) ∨ (items = [] ∧ ∃ t ∈ tails, ∃ u ∈ tails, dn = [.str (nmS (v1 + 0 * st) t), .str (nmS (v1 + 1 * st) u)]))) ?_ ?_ _ _ _ ⟨none, [], hs2, f2, h2, rfl, .inl ⟨rfl, rfl⟩⟩
  · rintro d r ρ S3 ⟨x2, dn, hs3, f3, h3, rfl, h | h | h⟩
    · obtain ⟨e, rfl⟩ := h
      cases e
      refine ⟨trivial, _, rfl, ?_⟩
      refine turn 0 [] S3 none _ (by decide) (by decide) (by simp) hs3 f3 h3 fun t ht S4 hs4 f4 h4 => ?_
      exact ⟨_, _, hs4, f4, h4, rfl, .inr (.inl ⟨rfl, t, ht, rfl⟩)⟩
    · obtain ⟨e, t, ht, rfl⟩ := h
      cases e
      refine ⟨trivial, _, rfl, ?_⟩
      refine turn 1 _ S3 none _ (by decide) (by decide) (by simp) hs3 f3 h3 fun u hu S4 hs4 f4 h4 => ?_
      exact ⟨_, _, hs4, f4, h4, rfl, .inr (.inr ⟨rfl, t, ht, u, hu, rfl⟩)⟩
    · obtain ⟨e, _⟩ := h
      cases e
  · rintro ρ S3 ⟨x2, dn, hs3, f3, h3, rfl, h | h | h⟩
    · obtain ⟨e, _⟩ := h; cases e
    · obtain ⟨e, _⟩ := h; cases e
    · obtain ⟨_, t, ht, u, hu, rfl⟩ := h
      refine ⟨trivial, ?_⟩
      simp only [ev_def, ev_Then, ev_Put, ev_Set, ev_Rt, ev_Drop, ev_If, ev_B, ev_Not, ev_And, ev_Or, ev_AndV, ev_OrV, ev_NotV, ev_Chain, ev_m1, ev_m2, ev_mn, ev_cons, ev_nil, ev_var, ev_c, ev_P, ev_noP, ev_Sl, ev_New, ev_RepO, ev_call, ev_App, ev_mErr, ev_sNx, ev_Asg, ev_Aug, ev_Par2, ev_Par3, ev_For, ev_Walk, ev_Lc, ev_Dc, ev_Yes, ev_Try1, ev_ret, ev_ok, ev_exc, ev_new, ev_nx, ev_bnd, ev_rd, at1_eq, at2_eq, at3_eq, aft_nx, aft_rt, aft_bk, aft_ct, out_rt, out_nx, trn_nx, trn_bk, trn_ct, trn_rt, tru_bl, asInt_int, add_int, addI_int, sub_int, ML.neg_int', ML.lt_int', ML.le_int', ML.gt_int', ML.ge_int', max_int, min_int, int_int, len_tup, len_lst, tpl_lst, tpl_tup, ML.sum_tup, sum_lst, all_lst, ix_row_tup, ix_row_lst, ML.eq_int, ML.ne_int, row_tup, row_lst, nv0, List.map_cons, List.map_nil, List.length_cons, List.length_nil, List.length_map, List.replicate_succ, List.replicate_zero, List.cons_append, List.nil_append, List.set_cons_zero, List.set_cons_succ, List.getElem?_cons_zero, List.getElem?_cons_succ, Option.join_some, Option.some.injEq, exists_eq_left', decide_eq_true_eq, Nat.zero_add, true_and, and_true, if_true, if_false, Bool.not_eq_true', Bool.false_eq_true, Bool.true_eq_false, tpl_obj h3]
      exact ⟨⟨_, _, rfl, nm_ok _ ht, nm_ok _ hu, nm_ne (by omega)⟩, hs3, f3⟩
end Plain

set_option Elab.async false
set_option linter.all false
set_option maxRecDepth 100000
set_option maxHeartbeats 1000000
namespace Plain
open PySem PySem.Spec L2 ML Walk

theorem sum_ge9 : ∀ {g : List Int}, (∀ x ∈ g, 9 ≤ x) → 9 * (g.length : Int) ≤ g.sum
  | [], _ => by simp
  | x :: g, h => by
    have h1 := h x List.mem_cons_self
    have h2 := sum_ge9 (g := g) fun y hy => h y (List.mem_cons_of_mem _ hy)
    rw [List.sum_cons, List.length_cons]; omega
theorem sum_set : ∀ {g : List Int} {i : Nat} {x y : Int}, g[i]? = some x → (g.set i y).sum = g.sum - x + y
  | [], i, x, y, h => by simp at h
  | a :: g, 0, x, y, h => by
    have e : a = x := by simpa using h
    subst e
    rw [List.set_cons_zero, List.sum_cons, List.sum_cons]; omega
  | a :: g, i + 1, x, y, h => by
    rw [List.set_cons_succ, List.sum_cons, List.sum_cons, sum_set (g := g) (i := i) (x := x) (by simpa using h)]; omega
theorem round_at {a b p : Int} : (a + (b - a) % p) % p = b % p := by
  rw [Int.add_emod, Int.emod_emod, ← Int.add_emod]
  congr 1
  omega
def Ent (g : List Int) : Prop := ∀ x ∈ g, 0 ≤ x ∧ x ≤ 9
theorem ix_row {m : Nat} {S : Sto} {g : List Int} {i : Int} (h : S[m]? = some (.lst (g.map Dt.int))) (h0 : 0 ≤ i) (h1 : i < g.length) : gIx (.obj m) (.int i) S = some (.int (g[i.toNat]'(by omega))) := by
  refine ix_obj h ?_
  rw [atI_pos h0 (by simpa using h1)]
  simp
theorem put_row {m : Nat} {S : Sto} {g : List Int} {i v : Int} (h : S[m]? = some (.lst (g.map Dt.int))) (h0 : 0 ≤ i) (h1 : i < g.length) : putO (.obj m) (.int i) (.int v) S = some (S.set m (.lst ((g.set i.toNat v).map Dt.int))) := by
  rw [put_lst h h0 (by simpa using h1), List.map_set]
theorem parted_ev {k : Nat} {S : Sto} {total places : Int} (hs : Src k S) (p0 : 1 ≤ places) (p1 : places ≤ 24) (t0 : 1 ≤ total) (t1 : total ≤ 9 * places) :
    Ev NoE (m__law_parted [.obj k, .int total, .int places] S) fun r S' => (∃ g, r = rowD g ∧ (g.length : Int) = places ∧ Ent g ∧ 0 < g.sum) ∧ Src k S' ∧ Fr k S S' := by
  have hk : S.length ≠ k := by have := hs.lt; omega
  have hp : 0 < places := by omega
  unfold m__law_parted
  simp only [ev_def, ev_Then, ev_Put, ev_Set, ev_Rt, ev_Drop, ev_If, ev_B, ev_Not, ev_And, ev_Or, ev_AndV, ev_OrV, ev_NotV, ev_Chain, ev_m1, ev_m2, ev_mn, ev_cons, ev_nil, ev_var, ev_c, ev_P, ev_noP, ev_Sl, ev_New, ev_RepO, ev_call, ev_App, ev_mErr, ev_sNx, ev_Asg, ev_Aug, ev_Par2, ev_Par3, ev_For, ev_Walk, ev_Lc, ev_Dc, ev_Yes, ev_Try1, ev_ret, ev_ok, ev_exc, ev_new, ev_nx, ev_bnd, ev_rd, at1_eq, at2_eq, at3_eq, aft_nx, aft_rt, aft_bk, aft_ct, out_rt, out_nx, trn_nx, trn_bk, trn_ct, trn_rt, tru_bl, asInt_int, add_int, addI_int, sub_int, ML.neg_int', ML.lt_int', ML.le_int', ML.gt_int', ML.ge_int', max_int, min_int, int_int, len_tup, len_lst, tpl_lst, tpl_tup, ML.sum_tup, sum_lst, all_lst, ix_row_tup, ix_row_lst, ML.eq_int, ML.ne_int, row_tup, row_lst, nv0, List.map_cons, List.map_nil, List.length_cons, List.length_nil, List.length_map, List.replicate_succ, List.replicate_zero, List.cons_append, List.nil_append, List.set_cons_zero, List.set_cons_succ, List.getElem?_cons_zero, List.getElem?_cons_succ, Option.join_some, Option.some.injEq, exists_eq_left', decide_eq_true_eq, Nat.zero_add, true_and, and_true, if_true, if_false, Bool.not_eq_true', Bool.false_eq_true, Bool.true_eq_false, fTup, fLst, nLst]
  refine ⟨_, rfl, .lst ((List.replicate places.toNat (0 : Int)).map Dt.int), ?_, ?_⟩
  · show (if 0 ≤ places ∧ places ≤ 1000 ∧ 1 ≤ 100 then some (Ob.lst (List.replicate places.toNat [Dt.int 0]).flatten) else none) = _
    rw [if_pos ⟨by omega, by omega, by decide⟩, List.flatten_replicate_singleton, List.map_replicate]
  refine (pick_ev (hs.push _) (by omega) (by omega)).imp ?_
  rintro _ S1 ⟨v1, rfl, a1, b1, hs1, fr1⟩
  refine (pick_ev hs1 (by omega) (by omega)).imp ?_
  rintro _ S2 ⟨v2, rfl, a2, b2, hs2, fr2⟩
  have h2 := (fr1.trans fr2).obj (at_push S (.lst ((List.replicate places.toNat (0 : Int)).map Dt.int))) hk
  have f2 : Fr k S S2 := ((Fr.push k S _).trans fr1).trans fr2
  simp only [ev_def, ev_Then, ev_Put, ev_Set, ev_Rt, ev_Drop, ev_If, ev_B, ev_Not, ev_And, ev_Or, ev_AndV, ev_OrV, ev_NotV, ev_Chain, ev_m1, ev_m2, ev_mn, ev_cons, ev_nil, ev_var, ev_c, ev_P, ev_noP, ev_Sl, ev_New, ev_RepO, ev_call, ev_App, ev_mErr, ev_sNx, ev_Asg, ev_Aug, ev_Par2, ev_Par3, ev_For, ev_Walk, ev_Lc, ev_Dc, ev_Yes, ev_Try1, ev_ret, ev_ok, ev_exc, ev_new, ev_nx, ev_bnd, ev_rd, at1_eq, at2_eq, at3_eq, aft_nx, aft_rt, aft_bk, aft_ct, out_rt, out_nx, trn_nx, trn_bk, trn_ct, trn_rt, tru_bl, asInt_int, add_int, addI_int, sub_int, ML.neg_int', ML.lt_int', ML.le_int', ML.gt_int', ML.ge_int', max_int, min_int, int_int, len_tup, len_lst, tpl_lst, tpl_tup, ML.sum_tup, sum_lst, all_lst, ix_row_tup, ix_row_lst, ML.eq_int, ML.ne_int, row_tup, row_lst, nv0, List.map_cons, List.map_nil, List.length_cons, List.length_nil, List.length_map, List.replicate_succ, List.replicate_zero, List.cons_append, List.nil_append, List.set_cons_zero, List.set_cons_succ, List.getElem?_cons_zero, List.getElem?_cons_succ, Option.join_some, Option.some.injEq, exists_eq_left', decide_eq_true_eq, Nat.zero_add, true_and, and_true, if_true, if_false, Bool.not_eq_true', Bool.false_eq_true, Bool.true_eq_false, fTup, fLst, nLst, ev_Rng1, rng1_eq]
  have sm : ∀ x : Int, 0 ≤ x → x ≤ 1000 → small62 x = true := fun x h h' => by
    unfold small62
    rw [decide_eq_true (by omega), decide_eq_true (by omega)]; rfl
  refine ⟨sm _ (by omega) (by omega), ?_⟩
  refine ev_forGo (I := fun items ρ S3 => ∃ (g : List Int) (x3 x7 x8 : Option Dt), ρ = [some (.obj k), some (.int total), some (.int places), x3, some (.obj S.length), some (.int v1), some (.int (1 + v2)), x7, x8] ∧ Src k S3 ∧ Fr k S S3 ∧ S3[S.length]? = some (.lst (g.map Dt.int)) ∧
    (g.length : Int) = places ∧ Ent g ∧ g.sum + items.length = total) ?_ ?_ _ _ _ ⟨_, none, none, none, rfl, hs2, f2, h2, by simp; omega, ?_, ?_⟩
  · rintro d r ρ S3 ⟨g, x3, x7, x8, rfl, hs3, f3, h3, gl, ge, gs⟩
    refine ⟨trivial, _, rfl, ?_⟩
    rw [List.length_cons] at gs
    simp only [ev_def, ev_Then, ev_Put, ev_Set, ev_Rt, ev_Drop, ev_If, ev_B, ev_Not, ev_And, ev_Or, ev_AndV, ev_OrV, ev_NotV, ev_Chain, ev_m1, ev_m2, ev_mn, ev_cons, ev_nil, ev_var, ev_c, ev_P, ev_noP, ev_Sl, ev_New, ev_RepO, ev_call, ev_App, ev_mErr, ev_sNx, ev_Asg, ev_Aug, ev_Par2, ev_Par3, ev_For, ev_Walk, ev_Lc, ev_Dc, ev_Yes, ev_Try1, ev_ret, ev_ok, ev_exc, ev_new, ev_nx, ev_bnd, ev_rd, at1_eq, at2_eq, at3_eq, aft_nx, aft_rt, aft_bk, aft_ct, out_rt, out_nx, trn_nx, trn_bk, trn_ct, trn_rt, tru_bl, asInt_int, add_int, addI_int, sub_int, ML.neg_int', ML.lt_int', ML.le_int', ML.gt_int', ML.ge_int', max_int, min_int, int_int, len_tup, len_lst, tpl_lst, tpl_tup, ML.sum_tup, sum_lst, all_lst, ix_row_tup, ix_row_lst, ML.eq_int, ML.ne_int, row_tup, row_lst, nv0, List.map_cons, List.map_nil, List.length_cons, List.length_nil, List.length_map, List.replicate_succ, List.replicate_zero, List.cons_append, List.nil_append, List.set_cons_zero, List.set_cons_succ, List.getElem?_cons_zero, List.getElem?_cons_succ, Option.join_some, Option.some.injEq, exists_eq_left', decide_eq_true_eq, Nat.zero_add, true_and, and_true, if_true, if_false, Bool.not_eq_true', Bool.false_eq_true, Bool.true_eq_false, fTup, fLst, nLst, ev_Rng1, rng1_eq]
    refine (pick_ev hs3 (by omega) (by omega)).imp ?_
    rintro _ S4 ⟨v3, rfl, a3, b3, hs4, fr4⟩
    have h4 := fr4.obj h3 hk
    have f4 := f3.trans fr4
    simp only [ev_def, ev_Then, ev_Put, ev_Set, ev_Rt, ev_Drop, ev_If, ev_B, ev_Not, ev_And, ev_Or, ev_AndV, ev_OrV, ev_NotV, ev_Chain, ev_m1, ev_m2, ev_mn, ev_cons, ev_nil, ev_var, ev_c, ev_P, ev_noP, ev_Sl, ev_New, ev_RepO, ev_call, ev_App, ev_mErr, ev_sNx, ev_Asg, ev_Aug, ev_Par2, ev_Par3, ev_For, ev_Walk, ev_Lc, ev_Dc, ev_Yes, ev_Try1, ev_ret, ev_ok, ev_exc, ev_new, ev_nx, ev_bnd, ev_rd, at1_eq, at2_eq, at3_eq, aft_nx, aft_rt, aft_bk, aft_ct, out_rt, out_nx, trn_nx, trn_bk, trn_ct, trn_rt, tru_bl, asInt_int, add_int, addI_int, sub_int, ML.neg_int', ML.lt_int', ML.le_int', ML.gt_int', ML.ge_int', max_int, min_int, int_int, len_tup, len_lst, tpl_lst, tpl_tup, ML.sum_tup, sum_lst, all_lst, ix_row_tup, ix_row_lst, ML.eq_int, ML.ne_int, row_tup, row_lst, nv0, List.map_cons, List.map_nil, List.length_cons, List.length_nil, List.length_map, List.replicate_succ, List.replicate_zero, List.cons_append, List.nil_append, List.set_cons_zero, List.set_cons_succ, List.getElem?_cons_zero, List.getElem?_cons_succ, Option.join_some, Option.some.injEq, exists_eq_left', decide_eq_true_eq, Nat.zero_add, true_and, and_true, if_true, if_false, Bool.not_eq_true', Bool.false_eq_true, Bool.true_eq_false, fTup, fLst, nLst, ev_Rng1, rng1_eq, mod_int hp]
    refine ⟨sm _ (by omega) (by omega), ?_⟩
    have z0 := Int.emod_nonneg (v1 + v3) (show places ≠ 0 by omega)
    have z1 := Int.emod_lt_of_pos (v1 + v3) hp
    generalize hat : (v1 + v3) % places = at0 at z0 z1
    refine ev_forGo (I := fun its ρ S5 => S5 = S4 ∧ ∃ (a : Int) (x8 : Option Dt), ρ = [some (.obj k), some (.int total), some (.int places), some d, some (.obj S.length), some (.int v1), some (.int (1 + v2)), some (.int a), x8] ∧ (its.length : Int) ≤ places ∧
      a = (at0 + (places - its.length)) % places ∧ ∀ t : Int, 0 ≤ t → t < places - its.length → ∀ x, g[((at0 + t) % places).toNat]? = some x → 9 ≤ x) ?_ ?_ _ _ _ ⟨rfl, at0, x8, rfl, ?_, ?_, ?_⟩
    · rintro d' its ρ S5 ⟨rfl, a, x8', rfl, l1, ha, l2⟩
      rw [List.length_cons] at l1 ha l2
      refine ⟨trivial, _, rfl, ?_⟩
      have y0 : 0 ≤ a := by rw [ha]; exact Int.emod_nonneg _ (by omega)
      have y1 : a < places := by rw [ha]; exact Int.emod_lt_of_pos _ hp
      simp only [ev_def, ev_Then, ev_Put, ev_Set, ev_Rt, ev_Drop, ev_If, ev_B, ev_Not, ev_And, ev_Or, ev_AndV, ev_OrV, ev_NotV, ev_Chain, ev_m1, ev_m2, ev_mn, ev_cons, ev_nil, ev_var, ev_c, ev_P, ev_noP, ev_Sl, ev_New, ev_RepO, ev_call, ev_App, ev_mErr, ev_sNx, ev_Asg, ev_Aug, ev_Par2, ev_Par3, ev_For, ev_Walk, ev_Lc, ev_Dc, ev_Yes, ev_Try1, ev_ret, ev_ok, ev_exc, ev_new, ev_nx, ev_bnd, ev_rd, at1_eq, at2_eq, at3_eq, aft_nx, aft_rt, aft_bk, aft_ct, out_rt, out_nx, trn_nx, trn_bk, trn_ct, trn_rt, tru_bl, asInt_int, add_int, addI_int, sub_int, ML.neg_int', ML.lt_int', ML.le_int', ML.gt_int', ML.ge_int', max_int, min_int, int_int, len_tup, len_lst, tpl_lst, tpl_tup, ML.sum_tup, sum_lst, all_lst, ix_row_tup, ix_row_lst, ML.eq_int, ML.ne_int, row_tup, row_lst, nv0, List.map_cons, List.map_nil, List.length_cons, List.length_nil, List.length_map, List.replicate_succ, List.replicate_zero, List.cons_append, List.nil_append, List.set_cons_zero, List.set_cons_succ, List.getElem?_cons_zero, List.getElem?_cons_succ, Option.join_some, Option.some.injEq, exists_eq_left', decide_eq_true_eq, Nat.zero_add, true_and, and_true, if_true, if_false, Bool.not_eq_true', Bool.false_eq_true, Bool.true_eq_false, fTup, fLst, nLst, ix_row h4 y0 (by omega : a < g.length)]
      by_cases q : g[a.toNat]'(by omega) < 9
      · rw [if_pos q]
        simp only [ev_def, ev_Then, ev_Put, ev_Set, ev_Rt, ev_Drop, ev_If, ev_B, ev_Not, ev_And, ev_Or, ev_AndV, ev_OrV, ev_NotV, ev_Chain, ev_m1, ev_m2, ev_mn, ev_cons, ev_nil, ev_var, ev_c, ev_P, ev_noP, ev_Sl, ev_New, ev_RepO, ev_call, ev_App, ev_mErr, ev_sNx, ev_Asg, ev_Aug, ev_Par2, ev_Par3, ev_For, ev_Walk, ev_Lc, ev_Dc, ev_Yes, ev_Try1, ev_ret, ev_ok, ev_exc, ev_new, ev_nx, ev_bnd, ev_rd, at1_eq, at2_eq, at3_eq, aft_nx, aft_rt, aft_bk, aft_ct, out_rt, out_nx, trn_nx, trn_bk, trn_ct, trn_rt, tru_bl, asInt_int, add_int, addI_int, sub_int, ML.neg_int', ML.lt_int', ML.le_int', ML.gt_int', ML.ge_int', max_int, min_int, int_int, len_tup, len_lst, tpl_lst, tpl_tup, ML.sum_tup, sum_lst, all_lst, ix_row_tup, ix_row_lst, ML.eq_int, ML.ne_int, row_tup, row_lst, nv0, List.map_cons, List.map_nil, List.length_cons, List.length_nil, List.length_map, List.replicate_succ, List.replicate_zero, List.cons_append, List.nil_append, List.set_cons_zero, List.set_cons_succ, List.getElem?_cons_zero, List.getElem?_cons_succ, Option.join_some, Option.some.injEq, exists_eq_left', decide_eq_true_eq, Nat.zero_add, true_and, and_true, if_true, if_false, Bool.not_eq_true', Bool.false_eq_true, Bool.true_eq_false, fTup, fLst, nLst, ix_row h4 y0 (by omega : a < g.length), put_row h4 y0 (by omega : a < g.length)]
        have eg : g[a.toNat]? = some (g[a.toNat]'(by omega)) := List.getElem?_eq_getElem _
        refine ⟨_, _, _, _, rfl, hs4.put hk _, f4.put (Nat.le_refl _) _, at_set (lt_of h4), by simpa using gl, ?_, by rw [sum_set eg]; omega⟩
        intro x hx
        rcases List.mem_or_eq_of_mem_set hx with hx | hx
        · exact ge x hx
        · have := ge _ (List.getElem_mem (show a.toNat < g.length by omega))
          omega
      · rw [if_neg q]
        simp only [ev_def, ev_Then, ev_Put, ev_Set, ev_Rt, ev_Drop, ev_If, ev_B, ev_Not, ev_And, ev_Or, ev_AndV, ev_OrV, ev_NotV, ev_Chain, ev_m1, ev_m2, ev_mn, ev_cons, ev_nil, ev_var, ev_c, ev_P, ev_noP, ev_Sl, ev_New, ev_RepO, ev_call, ev_App, ev_mErr, ev_sNx, ev_Asg, ev_Aug, ev_Par2, ev_Par3, ev_For, ev_Walk, ev_Lc, ev_Dc, ev_Yes, ev_Try1, ev_ret, ev_ok, ev_exc, ev_new, ev_nx, ev_bnd, ev_rd, at1_eq, at2_eq, at3_eq, aft_nx, aft_rt, aft_bk, aft_ct, out_rt, out_nx, trn_nx, trn_bk, trn_ct, trn_rt, tru_bl, asInt_int, add_int, addI_int, sub_int, ML.neg_int', ML.lt_int', ML.le_int', ML.gt_int', ML.ge_int', max_int, min_int, int_int, len_tup, len_lst, tpl_lst, tpl_tup, ML.sum_tup, sum_lst, all_lst, ix_row_tup, ix_row_lst, ML.eq_int, ML.ne_int, row_tup, row_lst, nv0, List.map_cons, List.map_nil, List.length_cons, List.length_nil, List.length_map, List.replicate_succ, List.replicate_zero, List.cons_append, List.nil_append, List.set_cons_zero, List.set_cons_succ, List.getElem?_cons_zero, List.getElem?_cons_succ, Option.join_some, Option.some.injEq, exists_eq_left', decide_eq_true_eq, Nat.zero_add, true_and, and_true, if_true, if_false, Bool.not_eq_true', Bool.false_eq_true, Bool.true_eq_false, fTup, fLst, nLst, mod_int hp]
        refine ⟨_, _, rfl, by omega, ?_, fun t t0 t1 x hx => ?_⟩
        · rw [ha, Int.emod_add_emod]
          congr 1
          omega
        · by_cases e : t = places - (its.length + 1 : Nat)
          · subst e
            rw [← ha] at hx
            rw [List.getElem?_eq_getElem (show a.toNat < g.length by omega)] at hx
            have := Option.some.inj hx
            omega
          · exact l2 t t0 (by omega) x hx
    · rintro ρ S5 ⟨rfl, a, x8', rfl, l1, ha, l2⟩
      exfalso
      have : 9 * (g.length : Int) ≤ g.sum := sum_ge9 fun x hx => by
        obtain ⟨j, hj, e⟩ := List.getElem_of_mem hx
        have hj2 : (j : Int) % places = j := Int.emod_eq_of_lt (by omega) (by omega)
        refine l2 (((j : Int) - at0) % places) (Int.emod_nonneg _ (by omega)) ?_ x ?_
        · have := Int.emod_lt_of_pos ((j : Int) - at0) hp
          simpa using this
        · rw [round_at, hj2]
          simp [hj, e]
      omega
    · show ((List.range places.toNat).map _).length ≤ places
      simp; omega
    · show at0 = (at0 + (places - ((List.range places.toNat).map _).length)) % places
      simp only [List.length_map, List.length_range]
      rw [show at0 + (places - (places.toNat : Int)) = at0 by omega]
      exact (Int.emod_eq_of_lt z0 z1).symm
    · intro t t0 t1
      simp only [rng, List.length_map, List.length_range] at t1
      omega
  · rintro ρ S3 ⟨g, x3, x7, x8, rfl, hs3, f3, h3, gl, ge, gs⟩
    refine ⟨trivial, ?_⟩
    simp only [ev_def, ev_Then, ev_Put, ev_Set, ev_Rt, ev_Drop, ev_If, ev_B, ev_Not, ev_And, ev_Or, ev_AndV, ev_OrV, ev_NotV, ev_Chain, ev_m1, ev_m2, ev_mn, ev_cons, ev_nil, ev_var, ev_c, ev_P, ev_noP, ev_Sl, ev_New, ev_RepO, ev_call, ev_App, ev_mErr, ev_sNx, ev_Asg, ev_Aug, ev_Par2, ev_Par3, ev_For, ev_Walk, ev_Lc, ev_Dc, ev_Yes, ev_Try1, ev_ret, ev_ok, ev_exc, ev_new, ev_nx, ev_bnd, ev_rd, at1_eq, at2_eq, at3_eq, aft_nx, aft_rt, aft_bk, aft_ct, out_rt, out_nx, trn_nx, trn_bk, trn_ct, trn_rt, tru_bl, asInt_int, add_int, addI_int, sub_int, ML.neg_int', ML.lt_int', ML.le_int', ML.gt_int', ML.ge_int', max_int, min_int, int_int, len_tup, len_lst, tpl_lst, tpl_tup, ML.sum_tup, sum_lst, all_lst, ix_row_tup, ix_row_lst, ML.eq_int, ML.ne_int, row_tup, row_lst, nv0, List.map_cons, List.map_nil, List.length_cons, List.length_nil, List.length_map, List.replicate_succ, List.replicate_zero, List.cons_append, List.nil_append, List.set_cons_zero, List.set_cons_succ, List.getElem?_cons_zero, List.getElem?_cons_succ, Option.join_some, Option.some.injEq, exists_eq_left', decide_eq_true_eq, Nat.zero_add, true_and, and_true, if_true, if_false, Bool.not_eq_true', Bool.false_eq_true, Bool.true_eq_false, fTup, fLst, nLst, tpl_obj h3]
    refine ⟨⟨g, rfl, gl, ge, ?_⟩, hs3, f3⟩
    simp at gs
    omega
  · intro x hx
    obtain ⟨_, rfl⟩ := List.mem_replicate.mp hx
    decide
  · show (List.replicate places.toNat (0 : Int)).sum + ((List.range total.toNat).map _).length = total
    simp
    omega
end Plain

set_option Elab.async false
set_option linter.all false
set_option maxRecDepth 100000
set_option maxHeartbeats 1000000
namespace Plain
open PySem PySem.Spec L2 ML Walk

theorem add_lst {xs ys : List Dt} {S : Sto} (h : xs.length + ys.length ≤ cap) : bAdd (.lst xs) (.lst ys) S = some (.lst (xs ++ ys)) := if_pos h
theorem add_tup {xs ys : List Dt} {S : Sto} (h : xs.length + ys.length ≤ cap) : bAdd (.tup xs) (.tup ys) S = some (.tup (xs ++ ys)) := if_pos h
theorem mul_tup1 {x : Int} {n : Int} {S : Sto} (h0 : 0 ≤ n) (h1 : n ≤ 1000) : bMul (.tup [.int x]) (.int n) S = some (rowD (List.replicate n.toNat x)) := by
  show (if [Dt.int x].length = 1 ∧ 0 ≤ n ∧ n ≤ 1000 then some (Dt.tup (List.replicate n.toNat [Dt.int x]).flatten) else none) = _
  rw [if_pos ⟨rfl, h0, h1⟩, List.flatten_replicate_singleton]
  unfold rowD
  rw [List.map_replicate]
def Mid (places : Int) (r : Dt) : Prop := ∃ g, r = rowD g ∧ (g.length : Int) = places ∧ Ent g ∧ 0 < g.sum
theorem mid_of {a b : List Int} {v : Int} (ha : Ent a) (hb : Ent b) (h0 : 1 ≤ v) (h1 : v ≤ 9) {places : Int} (hl : (a.length : Int) + 1 + b.length = places) : Mid places (.tup ((a.map Dt.int ++ [Dt.int v]) ++ b.map Dt.int)) := by
  refine ⟨(a ++ [v]) ++ b, by unfold rowD; rw [List.map_append, List.map_append]; rfl, by simp; omega, ?_, ?_⟩
  · intro x hx
    simp only [List.mem_append, List.mem_cons, List.not_mem_nil, or_false] at hx
    rcases hx with (hx | rfl) | hx
    · exact ha x hx
    · omega
    · exact hb x hx
  · rw [List.sum_append, List.sum_append]
    have := sum_nn (g := a) fun x hx => (ha x hx).1
    have := sum_nn (g := b) fun x hx => (hb x hx).1
    simp
    omega
theorem rng_sm (x : Int) (h : 0 ≤ x) (h' : x ≤ 1000) : small62 x = true := by
  unfold small62
  rw [decide_eq_true (by omega), decide_eq_true (by omega)]; rfl
theorem digits_ev {k : Nat} {S : Sto} {places : Int} (hs : Src k S) (p0 : 1 ≤ places) (p1 : places ≤ 24) : Ev NoE (m__law_digits [.obj k, .int places] S) fun r S' => Mid places r ∧ Src k S' ∧ Fr k S S' := by
  unfold m__law_digits
  simp only [ev_def, ev_Then, ev_Put, ev_Set, ev_Rt, ev_Drop, ev_If, ev_B, ev_Not, ev_And, ev_Or, ev_AndV, ev_OrV, ev_NotV, ev_Chain, ev_m1, ev_m2, ev_mn, ev_cons, ev_nil, ev_var, ev_c, ev_P, ev_noP, ev_Sl, ev_New, ev_RepO, ev_call, ev_App, ev_mErr, ev_sNx, ev_Asg, ev_Aug, ev_Par2, ev_Par3, ev_For, ev_Walk, ev_Lc, ev_Dc, ev_Yes, ev_Try1, ev_ret, ev_ok, ev_exc, ev_new, ev_nx, ev_bnd, ev_rd, at1_eq, at2_eq, at3_eq, aft_nx, aft_rt, aft_bk, aft_ct, out_rt, out_nx, trn_nx, trn_bk, trn_ct, trn_rt, tru_bl, asInt_int, add_int, addI_int, sub_int, ML.neg_int', ML.lt_int', ML.le_int', ML.gt_int', ML.ge_int', max_int, min_int, int_int, len_tup, len_lst, tpl_lst, tpl_tup, ML.sum_tup, sum_lst, all_lst, ix_row_tup, ix_row_lst, ML.eq_int, ML.ne_int, row_tup, row_lst, nv0, List.map_cons, List.map_nil, List.length_cons, List.length_nil, List.length_map, List.replicate_succ, List.replicate_zero, List.cons_append, List.nil_append, List.set_cons_zero, List.set_cons_succ, List.getElem?_cons_zero, List.getElem?_cons_succ, Option.join_some, Option.some.injEq, exists_eq_left', decide_eq_true_eq, Nat.zero_add, true_and, and_true, if_true, if_false, Bool.not_eq_true', Bool.false_eq_true, Bool.true_eq_false, fTup, fLst, nLst, ev_Rng1, rng1_eq]
  refine ⟨rng_sm _ (by omega) (by omega), ?_, ?_⟩
  · show ((List.range places.toNat).map _).length ≤ cap
    simp
    unfold cap
    omega
  refine ev_lcGo (I := fun ds r S1 => Src k S1 ∧ Fr k S S1 ∧ ∃ g, ds = g.map Dt.int ∧ Ent g ∧ (g.length : Int) + r.length = places) (fun ds d r S1 hI => ?_) (fun ds S1 hI => ?_) _ _ _ ⟨hs, Fr.refl _ _, [], rfl, fun x hx => absurd hx List.not_mem_nil, ?_⟩
  · obtain ⟨hs1, f1, g, rfl, ge, gl⟩ := hI
    refine ⟨trivial, _, rfl, ?_⟩
    simp only [ev_Yes, if_true]
    show Ev NoE (mCall 2 m__law_one (mCons (mVar 0) (mCons (mn fLst (mCons (mC (.int 0)) (mCons (mC (.int 9)) (mCons (mCall 2 m__law_pick (mCons (mVar 0) (mCons (mC (.int 10)) mNil))) mNil)))) mNil)) [some (.obj k), some (.int places), none, none, some d] S1) _
    simp only [ev_def, ev_Then, ev_Put, ev_Set, ev_Rt, ev_Drop, ev_If, ev_B, ev_Not, ev_And, ev_Or, ev_AndV, ev_OrV, ev_NotV, ev_Chain, ev_m1, ev_m2, ev_mn, ev_cons, ev_nil, ev_var, ev_c, ev_P, ev_noP, ev_Sl, ev_New, ev_RepO, ev_call, ev_App, ev_mErr, ev_sNx, ev_Asg, ev_Aug, ev_Par2, ev_Par3, ev_For, ev_Walk, ev_Lc, ev_Dc, ev_Yes, ev_Try1, ev_ret, ev_ok, ev_exc, ev_new, ev_nx, ev_bnd, ev_rd, at1_eq, at2_eq, at3_eq, aft_nx, aft_rt, aft_bk, aft_ct, out_rt, out_nx, trn_nx, trn_bk, trn_ct, trn_rt, tru_bl, asInt_int, add_int, addI_int, sub_int, ML.neg_int', ML.lt_int', ML.le_int', ML.gt_int', ML.ge_int', max_int, min_int, int_int, len_tup, len_lst, tpl_lst, tpl_tup, ML.sum_tup, sum_lst, all_lst, ix_row_tup, ix_row_lst, ML.eq_int, ML.ne_int, row_tup, row_lst, nv0, List.map_cons, List.map_nil, List.length_cons, List.length_nil, List.length_map, List.replicate_succ, List.replicate_zero, List.cons_append, List.nil_append, List.set_cons_zero, List.set_cons_succ, List.getElem?_cons_zero, List.getElem?_cons_succ, Option.join_some, Option.some.injEq, exists_eq_left', decide_eq_true_eq, Nat.zero_add, true_and, and_true, if_true, if_false, Bool.not_eq_true', Bool.false_eq_true, Bool.true_eq_false, fTup, fLst, nLst]
    refine (pick_ev hs1 (by decide) (by decide)).imp ?_
    rintro _ S2 ⟨v, rfl, a1, b1, hs2, fr2⟩
    refine ⟨_, rfl, ?_⟩
    refine (one_ev hs2 (by simp) (by simp)).imp ?_
    rintro x S3 ⟨hx, hs3, fr3⟩
    have h : ∃ y : Int, x = .int y ∧ 0 ≤ y ∧ y ≤ 9 := by
      simp only [List.mem_cons, List.not_mem_nil, or_false] at hx
      rcases hx with rfl | rfl | rfl
      · exact ⟨0, rfl, by omega, by omega⟩
      · exact ⟨9, rfl, by omega, by omega⟩
      · exact ⟨v, rfl, by omega, by omega⟩
    obtain ⟨y, rfl, y0, y1⟩ := h
    refine ⟨hs3, (f1.trans fr2).trans fr3, g ++ [y], by rw [List.map_append]; rfl, ?_, ?_⟩
    · intro z hz
      rcases List.mem_append.mp hz with hz | hz
      · exact ge z hz
      · rw [List.mem_singleton.mp hz]; exact ⟨y0, y1⟩
    · rw [List.length_cons] at gl
      simp
      omega
  · obtain ⟨hs1, f1, g, rfl, ge, gl⟩ := hI
    have gl : (g.length : Int) = places := by simpa using gl
    refine ⟨trivial, ?_⟩
    refine (pick_ev hs1 (by omega) (by omega)).imp ?_
    rintro _ S2 ⟨at0, rfl, a1, b1, hs2, fr2⟩
    refine ⟨_, rfl, .lst ((g.take at0.toNat).map Dt.int), ?_, ?_⟩
    · show some (Dt.lst (cutL (g.map Dt.int) none (some at0))) = _
      rw [cut_to g a1 (by omega)]
    refine (pick_ev hs2 (by decide) (by decide)).imp ?_
    rintro _ S3 ⟨v, rfl, a3, b3, hs3, fr3⟩
    refine ⟨_, rfl, _, rfl, _, add_lst (by simp; unfold cap; omega), _, rfl, _, rfl, .lst ((g.drop (at0 + 1).toNat).map Dt.int), ?_, _, add_lst (by simp; unfold cap; omega), _, tpl_lst, ?_⟩
    · show some (Dt.lst (cutL (g.map Dt.int) (some (at0 + 1)) none)) = _
      rw [cut_eq g (by omega) (by omega)]
    · refine ⟨mid_of (fun x hx => ge x (List.mem_of_mem_take hx)) (fun x hx => ge x (List.mem_of_mem_drop hx)) (by omega) (by omega) ?_, hs3, (f1.trans fr2).trans fr3⟩
      simp
      omega
  · show (([] : List Int).length : Int) + ((List.range places.toNat).map _).length = places
    simp
    omega
theorem ent_rep (n : Nat) : Ent (List.replicate n 0) := fun x hx => by
  obtain ⟨_, rfl⟩ := List.mem_replicate.mp hx
  decide
theorem rare_ev {k : Nat} {S : Sto} {places : Int} (hs : Src k S) (p0 : 1 ≤ places) (p1 : places ≤ 24) : Ev NoE (m__law_rare [.obj k, .int places] S) fun r S' => Mid places r ∧ Src k S' ∧ Fr k S S' := by
  unfold m__law_rare
  simp only [ev_def, ev_Then, ev_Put, ev_Set, ev_Rt, ev_Drop, ev_If, ev_B, ev_Not, ev_And, ev_Or, ev_AndV, ev_OrV, ev_NotV, ev_Chain, ev_m1, ev_m2, ev_mn, ev_cons, ev_nil, ev_var, ev_c, ev_P, ev_noP, ev_Sl, ev_New, ev_RepO, ev_call, ev_App, ev_mErr, ev_sNx, ev_Asg, ev_Aug, ev_Par2, ev_Par3, ev_For, ev_Walk, ev_Lc, ev_Dc, ev_Yes, ev_Try1, ev_ret, ev_ok, ev_exc, ev_new, ev_nx, ev_bnd, ev_rd, at1_eq, at2_eq, at3_eq, aft_nx, aft_rt, aft_bk, aft_ct, out_rt, out_nx, trn_nx, trn_bk, trn_ct, trn_rt, tru_bl, asInt_int, add_int, addI_int, sub_int, ML.neg_int', ML.lt_int', ML.le_int', ML.gt_int', ML.ge_int', max_int, min_int, int_int, len_tup, len_lst, tpl_lst, tpl_tup, ML.sum_tup, sum_lst, all_lst, ix_row_tup, ix_row_lst, ML.eq_int, ML.ne_int, row_tup, row_lst, nv0, List.map_cons, List.map_nil, List.length_cons, List.length_nil, List.length_map, List.replicate_succ, List.replicate_zero, List.cons_append, List.nil_append, List.set_cons_zero, List.set_cons_succ, List.getElem?_cons_zero, List.getElem?_cons_succ, Option.join_some, Option.some.injEq, exists_eq_left', decide_eq_true_eq, Nat.zero_add, true_and, and_true, if_true, if_false, Bool.not_eq_true', Bool.false_eq_true, Bool.true_eq_false, fTup, fLst, nLst]
  refine (pick_ev hs (by omega) (by omega)).imp ?_
  rintro _ S1 ⟨at0, rfl, a1, b1, hs1, fr1⟩
  refine (pick_ev hs1 (by decide) (by decide)).imp ?_
  rintro _ S2 ⟨tn, rfl, a2, b2, hs2, fr2⟩
  have f2 := fr1.trans fr2
  simp only [ev_def, ev_Then, ev_Put, ev_Set, ev_Rt, ev_Drop, ev_If, ev_B, ev_Not, ev_And, ev_Or, ev_AndV, ev_OrV, ev_NotV, ev_Chain, ev_m1, ev_m2, ev_mn, ev_cons, ev_nil, ev_var, ev_c, ev_P, ev_noP, ev_Sl, ev_New, ev_RepO, ev_call, ev_App, ev_mErr, ev_sNx, ev_Asg, ev_Aug, ev_Par2, ev_Par3, ev_For, ev_Walk, ev_Lc, ev_Dc, ev_Yes, ev_Try1, ev_ret, ev_ok, ev_exc, ev_new, ev_nx, ev_bnd, ev_rd, at1_eq, at2_eq, at3_eq, aft_nx, aft_rt, aft_bk, aft_ct, out_rt, out_nx, trn_nx, trn_bk, trn_ct, trn_rt, tru_bl, asInt_int, add_int, addI_int, sub_int, ML.neg_int', ML.lt_int', ML.le_int', ML.gt_int', ML.ge_int', max_int, min_int, int_int, len_tup, len_lst, tpl_lst, tpl_tup, ML.sum_tup, sum_lst, all_lst, ix_row_tup, ix_row_lst, ML.eq_int, ML.ne_int, row_tup, row_lst, nv0, List.map_cons, List.map_nil, List.length_cons, List.length_nil, List.length_map, List.replicate_succ, List.replicate_zero, List.cons_append, List.nil_append, List.set_cons_zero, List.set_cons_succ, List.getElem?_cons_zero, List.getElem?_cons_succ, Option.join_some, Option.some.injEq, exists_eq_left', decide_eq_true_eq, Nat.zero_add, true_and, and_true, if_true, if_false, Bool.not_eq_true', Bool.false_eq_true, Bool.true_eq_false, fTup, fLst, nLst]
  by_cases q : tn = 0
  · rw [if_pos q]
    refine ⟨_, rfl, _, mul_tup1 (by omega) (by omega), ?_⟩
    refine (pick_ev hs2 (by decide) (by decide)).imp ?_
    rintro _ S3 ⟨v, rfl, a3, b3, hs3, fr3⟩
    refine ⟨_, rfl, _, rfl, _, add_tup (by simp; unfold cap; omega), _, rfl, _, mul_tup1 (by omega) (by omega), _, add_tup (by simp; unfold cap; omega), ?_⟩
    refine ⟨mid_of (ent_rep _) (ent_rep _) (by omega) (by omega) ?_, hs3, f2.trans fr3⟩
    simp
    omega
  · rw [if_neg q]
    by_cases q1 : tn = 1
    · rw [if_pos q1]
      simp only [ev_def, ev_Then, ev_Put, ev_Set, ev_Rt, ev_Drop, ev_If, ev_B, ev_Not, ev_And, ev_Or, ev_AndV, ev_OrV, ev_NotV, ev_Chain, ev_m1, ev_m2, ev_mn, ev_cons, ev_nil, ev_var, ev_c, ev_P, ev_noP, ev_Sl, ev_New, ev_RepO, ev_call, ev_App, ev_mErr, ev_sNx, ev_Asg, ev_Aug, ev_Par2, ev_Par3, ev_For, ev_Walk, ev_Lc, ev_Dc, ev_Yes, ev_Try1, ev_ret, ev_ok, ev_exc, ev_new, ev_nx, ev_bnd, ev_rd, at1_eq, at2_eq, at3_eq, aft_nx, aft_rt, aft_bk, aft_ct, out_rt, out_nx, trn_nx, trn_bk, trn_ct, trn_rt, tru_bl, asInt_int, add_int, addI_int, sub_int, ML.neg_int', ML.lt_int', ML.le_int', ML.gt_int', ML.ge_int', max_int, min_int, int_int, len_tup, len_lst, tpl_lst, tpl_tup, ML.sum_tup, sum_lst, all_lst, ix_row_tup, ix_row_lst, ML.eq_int, ML.ne_int, row_tup, row_lst, nv0, List.map_cons, List.map_nil, List.length_cons, List.length_nil, List.length_map, List.replicate_succ, List.replicate_zero, List.cons_append, List.nil_append, List.set_cons_zero, List.set_cons_succ, List.getElem?_cons_zero, List.getElem?_cons_succ, Option.join_some, Option.some.injEq, exists_eq_left', decide_eq_true_eq, Nat.zero_add, true_and, and_true, if_true, if_false, Bool.not_eq_true', Bool.false_eq_true, Bool.true_eq_false, fTup, fLst, nLst, mul_intL (i := 9) (j := places) (by decide) (by decide)]
      refine (pick_ev hs2 (by omega) (by omega)).imp ?_
      rintro _ S3 ⟨v, rfl, a3, b3, hs3, fr3⟩
      simp only [ev_def, ev_Then, ev_Put, ev_Set, ev_Rt, ev_Drop, ev_If, ev_B, ev_Not, ev_And, ev_Or, ev_AndV, ev_OrV, ev_NotV, ev_Chain, ev_m1, ev_m2, ev_mn, ev_cons, ev_nil, ev_var, ev_c, ev_P, ev_noP, ev_Sl, ev_New, ev_RepO, ev_call, ev_App, ev_mErr, ev_sNx, ev_Asg, ev_Aug, ev_Par2, ev_Par3, ev_For, ev_Walk, ev_Lc, ev_Dc, ev_Yes, ev_Try1, ev_ret, ev_ok, ev_exc, ev_new, ev_nx, ev_bnd, ev_rd, at1_eq, at2_eq, at3_eq, aft_nx, aft_rt, aft_bk, aft_ct, out_rt, out_nx, trn_nx, trn_bk, trn_ct, trn_rt, tru_bl, asInt_int, add_int, addI_int, sub_int, ML.neg_int', ML.lt_int', ML.le_int', ML.gt_int', ML.ge_int', max_int, min_int, int_int, len_tup, len_lst, tpl_lst, tpl_tup, ML.sum_tup, sum_lst, all_lst, ix_row_tup, ix_row_lst, ML.eq_int, ML.ne_int, row_tup, row_lst, nv0, List.map_cons, List.map_nil, List.length_cons, List.length_nil, List.length_map, List.replicate_succ, List.replicate_zero, List.cons_append, List.nil_append, List.set_cons_zero, List.set_cons_succ, List.getElem?_cons_zero, List.getElem?_cons_succ, Option.join_some, Option.some.injEq, exists_eq_left', decide_eq_true_eq, Nat.zero_add, true_and, and_true, if_true, if_false, Bool.not_eq_true', Bool.false_eq_true, Bool.true_eq_false, fTup, fLst, nLst]
      refine (parted_ev hs3 p0 p1 (by omega) (by omega)).imp ?_
      rintro r S4 ⟨hr, hs4, fr4⟩
      exact ⟨hr, hs4, (f2.trans fr3).trans fr4⟩
    · rw [if_neg q1]
      refine (digits_ev hs2 p0 p1).imp ?_
      rintro r S3 ⟨hr, hs3, fr3⟩
      exact ⟨hr, hs3, f2.trans fr3⟩
end Plain

set_option Elab.async false
set_option linter.all false
set_option maxRecDepth 100000
set_option maxHeartbeats 1000000
namespace Plain
open PySem PySem.Spec L2 ML Walk

theorem row_of {g : List Int} {n : Int} (hl : (g.length : Int) = n) (h0 : 1 ≤ n) (h1 : n ≤ 24) (he : Ent g) (hp : 0 < g.sum) : Row g := ⟨by omega, by omega, fun x hx => (he x hx).1, fun x hx => (he x hx).2, hp⟩
/-- what a line over these two tasks keeps -/
def LOk (a b : Str) (p q : Nat) (l : Ln) : Prop := LnOk l ∧ ((l.a = a ∧ l.g.length = p) ∨ (l.a = b ∧ l.g.length = q)) ∧ ((l.b = a ∧ l.t.length = p) ∨ (l.b = b ∧ l.t.length = q))
theorem farline_ev {k : Nat} {S : Sto} (hs : Src k S) : Ev NoE (m__law_far_line [.obj k] S) fun r S' => (∃ G : Gr, r = G.dt ∧ GrOk G ∧ G.ls.length = 4) ∧ Src k S' ∧ Fr k S S' := by
  unfold m__law_far_line
  simp only [ev_def, ev_Then, ev_Put, ev_Set, ev_Rt, ev_Drop, ev_If, ev_B, ev_Not, ev_And, ev_Or, ev_AndV, ev_OrV, ev_NotV, ev_Chain, ev_m1, ev_m2, ev_mn, ev_cons, ev_nil, ev_var, ev_c, ev_P, ev_noP, ev_Sl, ev_New, ev_RepO, ev_call, ev_App, ev_mErr, ev_sNx, ev_Asg, ev_Aug, ev_Par2, ev_Par3, ev_For, ev_Walk, ev_Lc, ev_Dc, ev_Yes, ev_Try1, ev_ret, ev_ok, ev_exc, ev_new, ev_nx, ev_bnd, ev_rd, at1_eq, at2_eq, at3_eq, aft_nx, aft_rt, aft_bk, aft_ct, out_rt, out_nx, trn_nx, trn_bk, trn_ct, trn_rt, tru_bl, asInt_int, add_int, addI_int, sub_int, ML.neg_int', ML.lt_int', ML.le_int', ML.gt_int', ML.ge_int', max_int, min_int, int_int, len_tup, len_lst, tpl_lst, tpl_tup, ML.sum_tup, sum_lst, all_lst, ix_row_tup, ix_row_lst, ML.eq_int, ML.ne_int, row_tup, row_lst, nv0, List.map_cons, List.map_nil, List.length_cons, List.length_nil, List.length_map, List.replicate_succ, List.replicate_zero, List.cons_append, List.nil_append, List.set_cons_zero, List.set_cons_succ, List.getElem?_cons_zero, List.getElem?_cons_succ, Option.join_some, Option.some.injEq, exists_eq_left', decide_eq_true_eq, Nat.zero_add, true_and, and_true, if_true, if_false, Bool.not_eq_true', Bool.false_eq_true, Bool.true_eq_false, fTup, fLst, nLst, ev_Rng1, rng1_eq]
  refine (called_ev hs).imp ?_
  rintro _ S1 ⟨⟨a, b, rfl, na, nb, ne⟩, hs1, fr1⟩
  refine ⟨rng_sm _ (by decide) (by decide), by show 2 ≤ cap; decide, ?_⟩
  refine ev_lcGo (I := fun ds r S2 => Src k S2 ∧ Fr k S S2 ∧ ∃ g : List Nat, ds = g.map (fun n : Nat => Dt.int (n : Int)) ∧ (∀ n ∈ g, 1 ≤ n ∧ n ≤ 24) ∧ g.length + r.length = 2) (fun ds d r S2 hI => ?_) (fun ds S2 hI => ?_) _ _ _ ⟨hs1, fr1, [], rfl, fun x hx => absurd hx List.not_mem_nil, rfl⟩
  · obtain ⟨hs2, f2, g, rfl, ge, gl⟩ := hI
    refine ⟨trivial, _, rfl, ?_⟩
    simp only [ev_Yes, if_true]
    show Ev NoE (mCall 2 m__law_one (mCons (mVar 0) (mCons (mn fLst (mCons (mC (.int 1)) (mCons (mC (.int 2)) (mCons (mC (.int 24)) (mCons (m2 bAdd (mC (.int 1)) (mCall 2 m__law_pick (mCons (mVar 0) (mCons (mC (.int 24)) mNil)))) mNil))))) mNil)) [some (.obj k), none, none, none, none, none, none, none, some d] S2) _
    simp only [ev_def, ev_Then, ev_Put, ev_Set, ev_Rt, ev_Drop, ev_If, ev_B, ev_Not, ev_And, ev_Or, ev_AndV, ev_OrV, ev_NotV, ev_Chain, ev_m1, ev_m2, ev_mn, ev_cons, ev_nil, ev_var, ev_c, ev_P, ev_noP, ev_Sl, ev_New, ev_RepO, ev_call, ev_App, ev_mErr, ev_sNx, ev_Asg, ev_Aug, ev_Par2, ev_Par3, ev_For, ev_Walk, ev_Lc, ev_Dc, ev_Yes, ev_Try1, ev_ret, ev_ok, ev_exc, ev_new, ev_nx, ev_bnd, ev_rd, at1_eq, at2_eq, at3_eq, aft_nx, aft_rt, aft_bk, aft_ct, out_rt, out_nx, trn_nx, trn_bk, trn_ct, trn_rt, tru_bl, asInt_int, add_int, addI_int, sub_int, ML.neg_int', ML.lt_int', ML.le_int', ML.gt_int', ML.ge_int', max_int, min_int, int_int, len_tup, len_lst, tpl_lst, tpl_tup, ML.sum_tup, sum_lst, all_lst, ix_row_tup, ix_row_lst, ML.eq_int, ML.ne_int, row_tup, row_lst, nv0, List.map_cons, List.map_nil, List.length_cons, List.length_nil, List.length_map, List.replicate_succ, List.replicate_zero, List.cons_append, List.nil_append, List.set_cons_zero, List.set_cons_succ, List.getElem?_cons_zero, List.getElem?_cons_succ, Option.join_some, Option.some.injEq, exists_eq_left', decide_eq_true_eq, Nat.zero_add, true_and, and_true, if_true, if_false, Bool.not_eq_true', Bool.false_eq_true, Bool.true_eq_false, fTup, fLst, nLst]
    refine (pick_ev hs2 (by decide) (by decide)).imp ?_
    rintro _ S3 ⟨v, rfl, a1, b1, hs3, fr3⟩
    refine ⟨_, rfl, _, rfl, ?_⟩
    refine (one_ev hs3 (by simp) (by simp)).imp ?_
    rintro x S4 ⟨hx, hs4, fr4⟩
    have h : ∃ y : Nat, x = .int y ∧ 1 ≤ y ∧ y ≤ 24 := by
      simp only [List.mem_cons, List.not_mem_nil, or_false] at hx
      rcases hx with rfl | rfl | rfl | rfl
      · exact ⟨1, rfl, by omega, by omega⟩
      · exact ⟨2, rfl, by omega, by omega⟩
      · exact ⟨24, rfl, by omega, by omega⟩
      · exact ⟨(1 + v).toNat, by congr 1; omega, by omega, by omega⟩
    obtain ⟨y, rfl, y0, y1⟩ := h
    refine ⟨hs4, (f2.trans fr3).trans fr4, g ++ [y], by rw [List.map_append]; rfl, ?_, ?_⟩
    · intro z hz
      rcases List.mem_append.mp hz with hz | hz
      · exact ge z hz
      · rw [List.mem_singleton.mp hz]; exact ⟨y0, y1⟩
    · rw [List.length_cons] at gl
      simp
      omega
  · obtain ⟨hs2, f2, g, rfl, ge, gl⟩ := hI
    refine ⟨trivial, ?_⟩
    obtain ⟨p, q, rfl⟩ : ∃ p q, g = [p, q] := by
      match g, gl with
      | [p, q], _ => exact ⟨p, q, rfl⟩
    obtain ⟨p0, p1⟩ := ge p (by simp)
    obtain ⟨q0, q1⟩ := ge q (by simp)
    refine ⟨_, rfl, _, rfl, ?_⟩
    simp only [ev_def, ev_Then, ev_Put, ev_Set, ev_Rt, ev_Drop, ev_If, ev_B, ev_Not, ev_And, ev_Or, ev_AndV, ev_OrV, ev_NotV, ev_Chain, ev_m1, ev_m2, ev_mn, ev_cons, ev_nil, ev_var, ev_c, ev_P, ev_noP, ev_Sl, ev_New, ev_RepO, ev_call, ev_App, ev_mErr, ev_sNx, ev_Asg, ev_Aug, ev_Par2, ev_Par3, ev_For, ev_Walk, ev_Lc, ev_Dc, ev_Yes, ev_Try1, ev_ret, ev_ok, ev_exc, ev_new, ev_nx, ev_bnd, ev_rd, at1_eq, at2_eq, at3_eq, aft_nx, aft_rt, aft_bk, aft_ct, out_rt, out_nx, trn_nx, trn_bk, trn_ct, trn_rt, tru_bl, asInt_int, add_int, addI_int, sub_int, ML.neg_int', ML.lt_int', ML.le_int', ML.gt_int', ML.ge_int', max_int, min_int, int_int, len_tup, len_lst, tpl_lst, tpl_tup, ML.sum_tup, sum_lst, all_lst, ix_row_tup, ix_row_lst, ML.eq_int, ML.ne_int, row_tup, row_lst, nv0, List.map_cons, List.map_nil, List.length_cons, List.length_nil, List.length_map, List.replicate_succ, List.replicate_zero, List.cons_append, List.nil_append, List.set_cons_zero, List.set_cons_succ, List.getElem?_cons_zero, List.getElem?_cons_succ, Option.join_some, Option.some.injEq, exists_eq_left', decide_eq_true_eq, Nat.zero_add, true_and, and_true, if_true, if_false, Bool.not_eq_true', Bool.false_eq_true, Bool.true_eq_false, fTup, fLst, nLst, ev_Rng1, rng1_eq]
    refine ⟨rng_sm _ (by decide) (by decide), by show 2 ≤ cap; decide, ?_⟩
    let gt : Dt → Dt := fun d => match d with
      | .int i => if i = 0 then .tup [.str a, ones p] else .tup [.str b, ones q]
      | _ => .non
    refine ev_lcGo_pure (g := gt) [.int 0, .int 1] (fun d hd => ?_) [] ?_
    · refine ⟨_, rfl, ev_eq ?_⟩
      simp only [List.mem_cons, List.not_mem_nil, or_false] at hd
      rcases hd with rfl | rfl
      · show Ev NoE (mn fTup (mCons (m2 gIx (mVar 3) (mVar 8)) (mCons (m2 bMul (mn fTup (mCons (mC (.int 1)) mNil)) (m2 gIx (mVar 4) (mVar 8))) mNil)) [some (.obj k), none, none, some (.tup [.str a, .str b]), some (.lst [.int p, .int q]), none, none, none, some (.int 0)] S2) _
        simp only [ev_def, ev_Then, ev_Put, ev_Set, ev_Rt, ev_Drop, ev_If, ev_B, ev_Not, ev_And, ev_Or, ev_AndV, ev_OrV, ev_NotV, ev_Chain, ev_m1, ev_m2, ev_mn, ev_cons, ev_nil, ev_var, ev_c, ev_P, ev_noP, ev_Sl, ev_New, ev_RepO, ev_call, ev_App, ev_mErr, ev_sNx, ev_Asg, ev_Aug, ev_Par2, ev_Par3, ev_For, ev_Walk, ev_Lc, ev_Dc, ev_Yes, ev_Try1, ev_ret, ev_ok, ev_exc, ev_new, ev_nx, ev_bnd, ev_rd, at1_eq, at2_eq, at3_eq, aft_nx, aft_rt, aft_bk, aft_ct, out_rt, out_nx, trn_nx, trn_bk, trn_ct, trn_rt, tru_bl, asInt_int, add_int, addI_int, sub_int, ML.neg_int', ML.lt_int', ML.le_int', ML.gt_int', ML.ge_int', max_int, min_int, int_int, len_tup, len_lst, tpl_lst, tpl_tup, ML.sum_tup, sum_lst, all_lst, ix_row_tup, ix_row_lst, ML.eq_int, ML.ne_int, row_tup, row_lst, nv0, List.map_cons, List.map_nil, List.length_cons, List.length_nil, List.length_map, List.replicate_succ, List.replicate_zero, List.cons_append, List.nil_append, List.set_cons_zero, List.set_cons_succ, List.getElem?_cons_zero, List.getElem?_cons_succ, Option.join_some, Option.some.injEq, exists_eq_left', decide_eq_true_eq, Nat.zero_add, true_and, and_true, if_true, if_false, Bool.not_eq_true', Bool.false_eq_true, Bool.true_eq_false, fTup, fLst, nLst, at0p]
        refine ⟨_, rfl, _, mul_tup1 (by omega) (by omega), ?_⟩
        refine ⟨_, rfl, ?_⟩
        show _ = Dt.tup [.str a, ones p]
        unfold ones
        simp
      · show Ev NoE (mn fTup (mCons (m2 gIx (mVar 3) (mVar 8)) (mCons (m2 bMul (mn fTup (mCons (mC (.int 1)) mNil)) (m2 gIx (mVar 4) (mVar 8))) mNil)) [some (.obj k), none, none, some (.tup [.str a, .str b]), some (.lst [.int p, .int q]), none, none, none, some (.int 1)] S2) _
        simp only [ev_def, ev_Then, ev_Put, ev_Set, ev_Rt, ev_Drop, ev_If, ev_B, ev_Not, ev_And, ev_Or, ev_AndV, ev_OrV, ev_NotV, ev_Chain, ev_m1, ev_m2, ev_mn, ev_cons, ev_nil, ev_var, ev_c, ev_P, ev_noP, ev_Sl, ev_New, ev_RepO, ev_call, ev_App, ev_mErr, ev_sNx, ev_Asg, ev_Aug, ev_Par2, ev_Par3, ev_For, ev_Walk, ev_Lc, ev_Dc, ev_Yes, ev_Try1, ev_ret, ev_ok, ev_exc, ev_new, ev_nx, ev_bnd, ev_rd, at1_eq, at2_eq, at3_eq, aft_nx, aft_rt, aft_bk, aft_ct, out_rt, out_nx, trn_nx, trn_bk, trn_ct, trn_rt, tru_bl, asInt_int, add_int, addI_int, sub_int, ML.neg_int', ML.lt_int', ML.le_int', ML.gt_int', ML.ge_int', max_int, min_int, int_int, len_tup, len_lst, tpl_lst, tpl_tup, ML.sum_tup, sum_lst, all_lst, ix_row_tup, ix_row_lst, ML.eq_int, ML.ne_int, row_tup, row_lst, nv0, List.map_cons, List.map_nil, List.length_cons, List.length_nil, List.length_map, List.replicate_succ, List.replicate_zero, List.cons_append, List.nil_append, List.set_cons_zero, List.set_cons_succ, List.getElem?_cons_zero, List.getElem?_cons_succ, Option.join_some, Option.some.injEq, exists_eq_left', decide_eq_true_eq, Nat.zero_add, true_and, and_true, if_true, if_false, Bool.not_eq_true', Bool.false_eq_true, Bool.true_eq_false, fTup, fLst, nLst, at1p]
        refine ⟨_, rfl, _, mul_tup1 (by omega) (by omega), ?_⟩
        refine ⟨_, rfl, ?_⟩
        show _ = Dt.tup [.str b, ones q]
        unfold ones
        simp
    · have hk : S2.length ≠ k := by have := hs2.lt; omega
      have hg : gt (.int 0) = .tup [.str a, ones p] := rfl
      have hg1 : gt (.int 1) = .tup [.str b, ones q] := rfl
      simp only [ev_def, ev_Then, ev_Put, ev_Set, ev_Rt, ev_Drop, ev_If, ev_B, ev_Not, ev_And, ev_Or, ev_AndV, ev_OrV, ev_NotV, ev_Chain, ev_m1, ev_m2, ev_mn, ev_cons, ev_nil, ev_var, ev_c, ev_P, ev_noP, ev_Sl, ev_New, ev_RepO, ev_call, ev_App, ev_mErr, ev_sNx, ev_Asg, ev_Aug, ev_Par2, ev_Par3, ev_For, ev_Walk, ev_Lc, ev_Dc, ev_Yes, ev_Try1, ev_ret, ev_ok, ev_exc, ev_new, ev_nx, ev_bnd, ev_rd, at1_eq, at2_eq, at3_eq, aft_nx, aft_rt, aft_bk, aft_ct, out_rt, out_nx, trn_nx, trn_bk, trn_ct, trn_rt, tru_bl, asInt_int, add_int, addI_int, sub_int, ML.neg_int', ML.lt_int', ML.le_int', ML.gt_int', ML.ge_int', max_int, min_int, int_int, len_tup, len_lst, tpl_lst, tpl_tup, ML.sum_tup, sum_lst, all_lst, ix_row_tup, ix_row_lst, ML.eq_int, ML.ne_int, row_tup, row_lst, nv0, List.map_cons, List.map_nil, List.length_cons, List.length_nil, List.length_map, List.replicate_succ, List.replicate_zero, List.cons_append, List.nil_append, List.set_cons_zero, List.set_cons_succ, List.getElem?_cons_zero, List.getElem?_cons_succ, Option.join_some, Option.some.injEq, exists_eq_left', decide_eq_true_eq, Nat.zero_add, true_and, and_true, if_true, if_false, Bool.not_eq_true', Bool.false_eq_true, Bool.true_eq_false, fTup, fLst, nLst, hg, hg1]
      refine ⟨_, rfl, _, rfl, _, rfl, _, rfl, _, rfl, _, rfl, _, rfl, ?_⟩
      let nm : Nat → Str := fun i => if i = 0 then a else b
      let sz : Nat → Nat := fun i => if i = 0 then p else q
      have nm_at : ∀ i : Nat, i ≤ 1 → atI [Dt.str a, Dt.str b] (i : Int) = some (.str (nm i)) := fun i hi => by
        match i, hi with
        | 0, _ => rfl
        | 1, _ => rfl
      have sz_at : ∀ i : Nat, i ≤ 1 → atI [Dt.int p, Dt.int q] (i : Int) = some (.int (sz i)) := fun i hi => by
        match i, hi with
        | 0, _ => rfl
        | 1, _ => rfl
      have sz1 : ∀ i, 1 ≤ sz i ∧ sz i ≤ 24 := fun i => by
        show 1 ≤ (if i = 0 then p else q) ∧ (if i = 0 then p else q) ≤ 24
        split <;> omega
      have side : ∀ (i : Nat) (n : Nat), n = sz i → (nm i = a ∧ n = p) ∨ (nm i = b ∧ n = q) := fun i n h => by
        by_cases e : i = 0
        · exact .inl ⟨if_pos e, h.trans (if_pos e)⟩
        · exact .inr ⟨if_neg e, h.trans (if_neg e)⟩
      refine ev_forGo (I := fun items ρ S3 => ∃ (ls : List Ln) (x5 x6 x7 : Option Dt), ρ = [some (.obj k), some (.tup [.tup [.str a, ones p], .tup [.str b, ones q]]), some (.obj S2.length), some (.tup [.str a, .str b]), some (.lst [.int p, .int q]), x5, x6, x7, none] ∧ Src k S3 ∧ Fr k S S3 ∧ S3[S2.length]? = some (.lst (ls.map Ln.dt)) ∧
        ls.length + items.length = 4 ∧ (∀ l ∈ ls, LOk a b p q l) ∧ ∀ d ∈ items, ∃ i j : Nat, i ≤ 1 ∧ j ≤ 1 ∧ d = .tup [.int i, .int j]) ?_ ?_ _ _ _ ⟨[], none, none, none, rfl, hs2.push _, f2.trans (Fr.push k S2 _), at_push S2 _, rfl, fun l hl => absurd hl List.not_mem_nil, ?_⟩
      · rintro d r ρ S3 ⟨ls, x5, x6, x7, rfl, hs3, f3, h3, ll, lo, hd⟩
        obtain ⟨i, j, i1, j1, rfl⟩ := hd d List.mem_cons_self
        rw [List.length_cons] at ll
        refine ⟨trivial, _, rfl, ?_⟩
        simp only [ev_def, ev_Then, ev_Put, ev_Set, ev_Rt, ev_Drop, ev_If, ev_B, ev_Not, ev_And, ev_Or, ev_AndV, ev_OrV, ev_NotV, ev_Chain, ev_m1, ev_m2, ev_mn, ev_cons, ev_nil, ev_var, ev_c, ev_P, ev_noP, ev_Sl, ev_New, ev_RepO, ev_call, ev_App, ev_mErr, ev_sNx, ev_Asg, ev_Aug, ev_Par2, ev_Par3, ev_For, ev_Walk, ev_Lc, ev_Dc, ev_Yes, ev_Try1, ev_ret, ev_ok, ev_exc, ev_new, ev_nx, ev_bnd, ev_rd, at1_eq, at2_eq, at3_eq, aft_nx, aft_rt, aft_bk, aft_ct, out_rt, out_nx, trn_nx, trn_bk, trn_ct, trn_rt, tru_bl, asInt_int, add_int, addI_int, sub_int, ML.neg_int', ML.lt_int', ML.le_int', ML.gt_int', ML.ge_int', max_int, min_int, int_int, len_tup, len_lst, tpl_lst, tpl_tup, ML.sum_tup, sum_lst, all_lst, ix_row_tup, ix_row_lst, ML.eq_int, ML.ne_int, row_tup, row_lst, nv0, List.map_cons, List.map_nil, List.length_cons, List.length_nil, List.length_map, List.replicate_succ, List.replicate_zero, List.cons_append, List.nil_append, List.set_cons_zero, List.set_cons_succ, List.getElem?_cons_zero, List.getElem?_cons_succ, Option.join_some, Option.some.injEq, exists_eq_left', decide_eq_true_eq, Nat.zero_add, true_and, and_true, if_true, if_false, Bool.not_eq_true', Bool.false_eq_true, Bool.true_eq_false]
        refine (pick_ev hs3 (by decide) (by decide)).imp ?_
        rintro _ S4 ⟨v, rfl, a4, b4, hs4, fr4⟩
        refine (pick_ev hs4 (by decide) (by decide)).imp ?_
        rintro _ S5 ⟨w, rfl, a5, b5, hs5, fr5⟩
        refine ⟨_, rfl, ?_⟩
        refine (one_ev hs5 (by simp) (by simp)).imp ?_
        rintro sd S6 ⟨hsd, hs6, fr6⟩
        have h : ∃ st : Int, sd = .int st ∧ 0 ≤ st ∧ st ≤ 99999 := by
          simp only [List.mem_cons, List.not_mem_nil, or_false] at hsd
          rcases hsd with rfl | rfl | rfl | rfl | rfl
          · exact ⟨0, rfl, by omega, by omega⟩
          · exact ⟨1, rfl, by omega, by omega⟩
          · exact ⟨99999, rfl, by omega, by omega⟩
          · exact ⟨v, rfl, by omega, by omega⟩
          · exact ⟨w, rfl, by omega, by omega⟩
        obtain ⟨st, rfl, st0, st1⟩ := h
        have h6 := ((fr4.trans fr5).trans fr6).obj h3 hk
        have f6 := ((f3.trans fr4).trans fr5).trans fr6
        simp only [ev_def, ev_Then, ev_Put, ev_Set, ev_Rt, ev_Drop, ev_If, ev_B, ev_Not, ev_And, ev_Or, ev_AndV, ev_OrV, ev_NotV, ev_Chain, ev_m1, ev_m2, ev_mn, ev_cons, ev_nil, ev_var, ev_c, ev_P, ev_noP, ev_Sl, ev_New, ev_RepO, ev_call, ev_App, ev_mErr, ev_sNx, ev_Asg, ev_Aug, ev_Par2, ev_Par3, ev_For, ev_Walk, ev_Lc, ev_Dc, ev_Yes, ev_Try1, ev_ret, ev_ok, ev_exc, ev_new, ev_nx, ev_bnd, ev_rd, at1_eq, at2_eq, at3_eq, aft_nx, aft_rt, aft_bk, aft_ct, out_rt, out_nx, trn_nx, trn_bk, trn_ct, trn_rt, tru_bl, asInt_int, add_int, addI_int, sub_int, ML.neg_int', ML.lt_int', ML.le_int', ML.gt_int', ML.ge_int', max_int, min_int, int_int, len_tup, len_lst, tpl_lst, tpl_tup, ML.sum_tup, sum_lst, all_lst, ix_row_tup, ix_row_lst, ML.eq_int, ML.ne_int, row_tup, row_lst, nv0, List.map_cons, List.map_nil, List.length_cons, List.length_nil, List.length_map, List.replicate_succ, List.replicate_zero, List.cons_append, List.nil_append, List.set_cons_zero, List.set_cons_succ, List.getElem?_cons_zero, List.getElem?_cons_succ, Option.join_some, Option.some.injEq, exists_eq_left', decide_eq_true_eq, Nat.zero_add, true_and, and_true, if_true, if_false, Bool.not_eq_true', Bool.false_eq_true, Bool.true_eq_false, objL_lst h6, nm_at i i1, nm_at j j1, sz_at i i1, sz_at j j1]
        refine ⟨(), ?_⟩
        refine (rare_ev (places := (sz i : Int)) hs6 (by have := sz1 i; omega) (by have := sz1 i; omega)).imp ?_
        rintro _ S7 ⟨⟨g, rfl, gl, ge, gs⟩, hs7, fr7⟩
        refine (rare_ev (places := (sz j : Int)) hs7 (by have := sz1 j; omega) (by have := sz1 j; omega)).imp ?_
        rintro _ S8 ⟨⟨t, rfl, tl, te, ts⟩, hs8, fr8⟩
        have h8 := (fr7.trans fr8).obj h6 hk
        refine ⟨_, rfl, _, app_lst h8 (by simp; unfold cap; omega), ?_⟩
        refine ⟨ls ++ [⟨nm i, nm j, g, t, st⟩], _, _, _, rfl, hs8.put hk _, ((f6.trans fr7).trans fr8).put (Nat.le_trans f2.len (Nat.le_refl _)) _, ?_, ?_, ?_, fun d hd' => hd d (List.mem_cons_of_mem _ hd')⟩
        · rw [at_set (lt_of h8), List.map_append]
          rfl
        · simp
          omega
        · intro l hl
          rcases List.mem_append.mp hl with hl | hl
          · exact lo l hl
          · rw [List.mem_singleton.mp hl]
            have si := sz1 i
            have sj := sz1 j
            exact ⟨⟨row_of gl (by omega) (by omega) ge gs, row_of tl (by omega) (by omega) te ts, st0, st1⟩, side i _ (by show g.length = sz i; omega), side j _ (by show t.length = sz j; omega)⟩
      · rintro ρ S3 ⟨ls, x5, x6, x7, rfl, hs3, f3, h3, ll, lo, hd⟩
        refine ⟨trivial, ?_⟩
        simp only [ev_def, ev_Then, ev_Put, ev_Set, ev_Rt, ev_Drop, ev_If, ev_B, ev_Not, ev_And, ev_Or, ev_AndV, ev_OrV, ev_NotV, ev_Chain, ev_m1, ev_m2, ev_mn, ev_cons, ev_nil, ev_var, ev_c, ev_P, ev_noP, ev_Sl, ev_New, ev_RepO, ev_call, ev_App, ev_mErr, ev_sNx, ev_Asg, ev_Aug, ev_Par2, ev_Par3, ev_For, ev_Walk, ev_Lc, ev_Dc, ev_Yes, ev_Try1, ev_ret, ev_ok, ev_exc, ev_new, ev_nx, ev_bnd, ev_rd, at1_eq, at2_eq, at3_eq, aft_nx, aft_rt, aft_bk, aft_ct, out_rt, out_nx, trn_nx, trn_bk, trn_ct, trn_rt, tru_bl, asInt_int, add_int, addI_int, sub_int, ML.neg_int', ML.lt_int', ML.le_int', ML.gt_int', ML.ge_int', max_int, min_int, int_int, len_tup, len_lst, tpl_lst, tpl_tup, ML.sum_tup, sum_lst, all_lst, ix_row_tup, ix_row_lst, ML.eq_int, ML.ne_int, row_tup, row_lst, nv0, List.map_cons, List.map_nil, List.length_cons, List.length_nil, List.length_map, List.replicate_succ, List.replicate_zero, List.cons_append, List.nil_append, List.set_cons_zero, List.set_cons_succ, List.getElem?_cons_zero, List.getElem?_cons_succ, Option.join_some, Option.some.injEq, exists_eq_left', decide_eq_true_eq, Nat.zero_add, true_and, and_true, if_true, if_false, Bool.not_eq_true', Bool.false_eq_true, Bool.true_eq_false, tpl_obj h3]
        refine ⟨_, rfl, ⟨⟨a, b, p, q, ls⟩, rfl, ?_, by simpa using ll⟩, hs3, f3⟩
        have ll : ls.length = 4 := by simpa using ll
        exact ⟨na, nb, ne, p0, p1, q0, q1, by show ls.length ≤ 60; omega, fun l hl => (lo l hl).1, fun l hl => (lo l hl).2.1, fun l hl => (lo l hl).2.2⟩
      · intro d hd
        have hd : d ∈ [Dt.tup [.int 0, .int 1], Dt.tup [.int 1, .int 0], Dt.tup [.int 0, .int 1], Dt.tup [.int 0, .int 0]] := hd
        simp only [List.mem_cons, List.not_mem_nil, or_false] at hd
        rcases hd with rfl | rfl | rfl | rfl
        · exact ⟨0, 1, by decide, by decide, rfl⟩
        · exact ⟨1, 0, by decide, by decide, rfl⟩
        · exact ⟨0, 1, by decide, by decide, rfl⟩
        · exact ⟨0, 0, by decide, by decide, rfl⟩
end Plain

set_option Elab.async false
set_option linter.all false
set_option maxRecDepth 100000
set_option maxHeartbeats 1000000
namespace Plain
open PySem PySem.Spec L2 ML Walk

/-! ### numbers that are none -/
structure OddOk (d : Dt) : Prop where
  pl : Dt.plain d = true
  sw : ∃ p, (Dt.lst [d]).py = some p ∧ Shw p
theorem shw_by {p : PyData} (h : (SeqAt.shaped p && (PyData.eqv p p && (p.showable && (!p.hasDict && (decide (p.depth ≤ 20) && (decide (p.shown.length ≤ cap) && PyData.canLay0 (.str p.shown))))))) = true) : Shw p := by
  simp only [Bool.and_eq_true, decide_eq_true_eq, Bool.not_eq_true'] at h
  obtain ⟨h1, h2, h3, h4, h5, h6, h7⟩ := h
  exact ⟨h1, h2, h3, h4, h5, h6, h7⟩
def odds : List Dt := [.int (-1), .int 4, .bl true, .non, .str "0", .tup [.int 0]]
def wrongs : List Dt := [.int (-1), .int 100001, .bl false, .non, .str "7"]
theorem odd_ok : ∀ d ∈ odds, OddOk d ∧ isB 0 3 d = false := by
  intro d hd
  simp only [odds, List.mem_cons, List.not_mem_nil, or_false] at hd
  rcases hd with rfl | rfl | rfl | rfl | rfl | rfl
  · exact ⟨⟨rfl, _, rfl, shw_by (by decide +kernel)⟩, rfl⟩
  · exact ⟨⟨rfl, _, rfl, shw_by (by decide +kernel)⟩, rfl⟩
  · exact ⟨⟨rfl, _, rfl, shw_by (by decide +kernel)⟩, rfl⟩
  · exact ⟨⟨rfl, _, rfl, shw_by (by decide +kernel)⟩, rfl⟩
  · exact ⟨⟨rfl, _, rfl, shw_by (by decide +kernel)⟩, rfl⟩
  · exact ⟨⟨rfl, _, rfl, shw_by (by decide +kernel)⟩, rfl⟩
theorem wrong_ok : ∀ d ∈ wrongs, OddOk d ∧ isB 0 100000 d = false := by
  intro d hd
  simp only [wrongs, List.mem_cons, List.not_mem_nil, or_false] at hd
  rcases hd with rfl | rfl | rfl | rfl | rfl
  · exact ⟨⟨rfl, _, rfl, shw_by (by decide +kernel)⟩, rfl⟩
  · exact ⟨⟨rfl, _, rfl, shw_by (by decide +kernel)⟩, rfl⟩
  · exact ⟨⟨rfl, _, rfl, shw_by (by decide +kernel)⟩, rfl⟩
  · exact ⟨⟨rfl, _, rfl, shw_by (by decide +kernel)⟩, rfl⟩
  · exact ⟨⟨rfl, _, rfl, shw_by (by decide +kernel)⟩, rfl⟩
section
variable {G : Gr} {S : Sto} {d e : Dt}
/-- m refuses a number of no line first, then a count that is none -/
def Refuses (G : Gr) (m : Fm) : Prop := (∀ (X : Str → Dt → Sto → Prop) (Q : Dt → Sto → Prop) (S : Sto) (d e : Dt), Dt.plain d = true → isB 0 3 d = false → (Ev X (m [G.dt, d, e] S) Q ↔ X "BadNumber" d S)) ∧
  ∀ (X : Str → Dt → Sto → Prop) (Q : Dt → Sto → Prop) (S : Sto) (e : Dt), Dt.plain e = true → isB 0 100000 e = false → (Ev X (m [G.dt, .int 3, e] S) Q ↔ X "BadNumber" e S)
theorem three (h4 : G.ls.length = 4) : isB 0 ((G.ls.length : Int) - 1) d = isB 0 3 d := by rw [h4]; rfl
theorem lat3 (o : GrOk G) (h4 : G.ls.length = 4) : m_look_at_line [G.dt, .int 3] S = .ok .non S := lat_eq (n := 3) o (by omega)
theorem gave_no (o : GrOk G) (h4 : G.ls.length = 4) : Refuses G m_gave := by
  refine ⟨fun X Q S d e hp hb => ?_, fun X Q S e hp hb => ?_⟩
  · unfold m_gave
    simp only [ev_def, ev_Then, ev_Put, ev_Set, ev_Rt, ev_Drop, ev_If, ev_B, ev_Not, ev_And, ev_Or, ev_AndV, ev_OrV, ev_NotV, ev_Chain, ev_m1, ev_m2, ev_mn, ev_cons, ev_nil, ev_var, ev_c, ev_P, ev_noP, ev_Sl, ev_New, ev_RepO, ev_call, ev_App, ev_mErr, ev_sNx, ev_Asg, ev_Aug, ev_Par2, ev_Par3, ev_For, ev_Walk, ev_Lc, ev_Dc, ev_Yes, ev_Try1, ev_ret, ev_ok, ev_exc, ev_new, ev_nx, ev_bnd, ev_rd, at1_eq, at2_eq, at3_eq, aft_nx, aft_rt, aft_bk, aft_ct, out_rt, out_nx, trn_nx, trn_bk, trn_ct, trn_rt, tru_bl, asInt_int, add_int, addI_int, sub_int, ML.neg_int', ML.lt_int', ML.le_int', ML.gt_int', ML.ge_int', max_int, min_int, int_int, len_tup, len_lst, tpl_lst, tpl_tup, ML.sum_tup, sum_lst, all_lst, ix_row_tup, ix_row_lst, ML.eq_int, ML.ne_int, row_tup, row_lst, nv0, List.map_cons, List.map_nil, List.length_cons, List.length_nil, List.length_map, List.replicate_succ, List.replicate_zero, List.cons_append, List.nil_append, List.set_cons_zero, List.set_cons_succ, List.getElem?_cons_zero, List.getElem?_cons_succ, Option.join_some, Option.some.injEq, exists_eq_left', decide_eq_true_eq, Nat.zero_add, true_and, and_true, if_true, if_false, Bool.not_eq_true', Bool.false_eq_true, Bool.true_eq_false, lat_bad o hp ((three h4).trans hb)]
  · unfold m_gave
    simp only [ev_def, ev_Then, ev_Put, ev_Set, ev_Rt, ev_Drop, ev_If, ev_B, ev_Not, ev_And, ev_Or, ev_AndV, ev_OrV, ev_NotV, ev_Chain, ev_m1, ev_m2, ev_mn, ev_cons, ev_nil, ev_var, ev_c, ev_P, ev_noP, ev_Sl, ev_New, ev_RepO, ev_call, ev_App, ev_mErr, ev_sNx, ev_Asg, ev_Aug, ev_Par2, ev_Par3, ev_For, ev_Walk, ev_Lc, ev_Dc, ev_Yes, ev_Try1, ev_ret, ev_ok, ev_exc, ev_new, ev_nx, ev_bnd, ev_rd, at1_eq, at2_eq, at3_eq, aft_nx, aft_rt, aft_bk, aft_ct, out_rt, out_nx, trn_nx, trn_bk, trn_ct, trn_rt, tru_bl, asInt_int, add_int, addI_int, sub_int, ML.neg_int', ML.lt_int', ML.le_int', ML.gt_int', ML.ge_int', max_int, min_int, int_int, len_tup, len_lst, tpl_lst, tpl_tup, ML.sum_tup, sum_lst, all_lst, ix_row_tup, ix_row_lst, ML.eq_int, ML.ne_int, row_tup, row_lst, nv0, List.map_cons, List.map_nil, List.length_cons, List.length_nil, List.length_map, List.replicate_succ, List.replicate_zero, List.cons_append, List.nil_append, List.set_cons_zero, List.set_cons_succ, List.getElem?_cons_zero, List.getElem?_cons_succ, Option.join_some, Option.some.injEq, exists_eq_left', decide_eq_true_eq, Nat.zero_add, true_and, and_true, if_true, if_false, Bool.not_eq_true', Bool.false_eq_true, Bool.true_eq_false, eq_ev (lat3 o h4), number_bad hp hb]
theorem took_no (o : GrOk G) (h4 : G.ls.length = 4) : Refuses G m_took := by
  refine ⟨fun X Q S d e hp hb => ?_, fun X Q S e hp hb => ?_⟩
  · unfold m_took
    simp only [ev_def, ev_Then, ev_Put, ev_Set, ev_Rt, ev_Drop, ev_If, ev_B, ev_Not, ev_And, ev_Or, ev_AndV, ev_OrV, ev_NotV, ev_Chain, ev_m1, ev_m2, ev_mn, ev_cons, ev_nil, ev_var, ev_c, ev_P, ev_noP, ev_Sl, ev_New, ev_RepO, ev_call, ev_App, ev_mErr, ev_sNx, ev_Asg, ev_Aug, ev_Par2, ev_Par3, ev_For, ev_Walk, ev_Lc, ev_Dc, ev_Yes, ev_Try1, ev_ret, ev_ok, ev_exc, ev_new, ev_nx, ev_bnd, ev_rd, at1_eq, at2_eq, at3_eq, aft_nx, aft_rt, aft_bk, aft_ct, out_rt, out_nx, trn_nx, trn_bk, trn_ct, trn_rt, tru_bl, asInt_int, add_int, addI_int, sub_int, ML.neg_int', ML.lt_int', ML.le_int', ML.gt_int', ML.ge_int', max_int, min_int, int_int, len_tup, len_lst, tpl_lst, tpl_tup, ML.sum_tup, sum_lst, all_lst, ix_row_tup, ix_row_lst, ML.eq_int, ML.ne_int, row_tup, row_lst, nv0, List.map_cons, List.map_nil, List.length_cons, List.length_nil, List.length_map, List.replicate_succ, List.replicate_zero, List.cons_append, List.nil_append, List.set_cons_zero, List.set_cons_succ, List.getElem?_cons_zero, List.getElem?_cons_succ, Option.join_some, Option.some.injEq, exists_eq_left', decide_eq_true_eq, Nat.zero_add, true_and, and_true, if_true, if_false, Bool.not_eq_true', Bool.false_eq_true, Bool.true_eq_false, lat_bad o hp ((three h4).trans hb)]
  · unfold m_took
    simp only [ev_def, ev_Then, ev_Put, ev_Set, ev_Rt, ev_Drop, ev_If, ev_B, ev_Not, ev_And, ev_Or, ev_AndV, ev_OrV, ev_NotV, ev_Chain, ev_m1, ev_m2, ev_mn, ev_cons, ev_nil, ev_var, ev_c, ev_P, ev_noP, ev_Sl, ev_New, ev_RepO, ev_call, ev_App, ev_mErr, ev_sNx, ev_Asg, ev_Aug, ev_Par2, ev_Par3, ev_For, ev_Walk, ev_Lc, ev_Dc, ev_Yes, ev_Try1, ev_ret, ev_ok, ev_exc, ev_new, ev_nx, ev_bnd, ev_rd, at1_eq, at2_eq, at3_eq, aft_nx, aft_rt, aft_bk, aft_ct, out_rt, out_nx, trn_nx, trn_bk, trn_ct, trn_rt, tru_bl, asInt_int, add_int, addI_int, sub_int, ML.neg_int', ML.lt_int', ML.le_int', ML.gt_int', ML.ge_int', max_int, min_int, int_int, len_tup, len_lst, tpl_lst, tpl_tup, ML.sum_tup, sum_lst, all_lst, ix_row_tup, ix_row_lst, ML.eq_int, ML.ne_int, row_tup, row_lst, nv0, List.map_cons, List.map_nil, List.length_cons, List.length_nil, List.length_map, List.replicate_succ, List.replicate_zero, List.cons_append, List.nil_append, List.set_cons_zero, List.set_cons_succ, List.getElem?_cons_zero, List.getElem?_cons_succ, Option.join_some, Option.some.injEq, exists_eq_left', decide_eq_true_eq, Nat.zero_add, true_and, and_true, if_true, if_false, Bool.not_eq_true', Bool.false_eq_true, Bool.true_eq_false, eq_ev (lat3 o h4), number_bad hp hb]
theorem need_no (o : GrOk G) (h4 : G.ls.length = 4) : Refuses G m_need := by
  refine ⟨fun X Q S d e hp hb => ?_, fun X Q S e hp hb => ?_⟩
  · unfold m_need
    simp only [ev_def, ev_Then, ev_Put, ev_Set, ev_Rt, ev_Drop, ev_If, ev_B, ev_Not, ev_And, ev_Or, ev_AndV, ev_OrV, ev_NotV, ev_Chain, ev_m1, ev_m2, ev_mn, ev_cons, ev_nil, ev_var, ev_c, ev_P, ev_noP, ev_Sl, ev_New, ev_RepO, ev_call, ev_App, ev_mErr, ev_sNx, ev_Asg, ev_Aug, ev_Par2, ev_Par3, ev_For, ev_Walk, ev_Lc, ev_Dc, ev_Yes, ev_Try1, ev_ret, ev_ok, ev_exc, ev_new, ev_nx, ev_bnd, ev_rd, at1_eq, at2_eq, at3_eq, aft_nx, aft_rt, aft_bk, aft_ct, out_rt, out_nx, trn_nx, trn_bk, trn_ct, trn_rt, tru_bl, asInt_int, add_int, addI_int, sub_int, ML.neg_int', ML.lt_int', ML.le_int', ML.gt_int', ML.ge_int', max_int, min_int, int_int, len_tup, len_lst, tpl_lst, tpl_tup, ML.sum_tup, sum_lst, all_lst, ix_row_tup, ix_row_lst, ML.eq_int, ML.ne_int, row_tup, row_lst, nv0, List.map_cons, List.map_nil, List.length_cons, List.length_nil, List.length_map, List.replicate_succ, List.replicate_zero, List.cons_append, List.nil_append, List.set_cons_zero, List.set_cons_succ, List.getElem?_cons_zero, List.getElem?_cons_succ, Option.join_some, Option.some.injEq, exists_eq_left', decide_eq_true_eq, Nat.zero_add, true_and, and_true, if_true, if_false, Bool.not_eq_true', Bool.false_eq_true, Bool.true_eq_false, lat_bad o hp ((three h4).trans hb)]
  · unfold m_need
    simp only [ev_def, ev_Then, ev_Put, ev_Set, ev_Rt, ev_Drop, ev_If, ev_B, ev_Not, ev_And, ev_Or, ev_AndV, ev_OrV, ev_NotV, ev_Chain, ev_m1, ev_m2, ev_mn, ev_cons, ev_nil, ev_var, ev_c, ev_P, ev_noP, ev_Sl, ev_New, ev_RepO, ev_call, ev_App, ev_mErr, ev_sNx, ev_Asg, ev_Aug, ev_Par2, ev_Par3, ev_For, ev_Walk, ev_Lc, ev_Dc, ev_Yes, ev_Try1, ev_ret, ev_ok, ev_exc, ev_new, ev_nx, ev_bnd, ev_rd, at1_eq, at2_eq, at3_eq, aft_nx, aft_rt, aft_bk, aft_ct, out_rt, out_nx, trn_nx, trn_bk, trn_ct, trn_rt, tru_bl, asInt_int, add_int, addI_int, sub_int, ML.neg_int', ML.lt_int', ML.le_int', ML.gt_int', ML.ge_int', max_int, min_int, int_int, len_tup, len_lst, tpl_lst, tpl_tup, ML.sum_tup, sum_lst, all_lst, ix_row_tup, ix_row_lst, ML.eq_int, ML.ne_int, row_tup, row_lst, nv0, List.map_cons, List.map_nil, List.length_cons, List.length_nil, List.length_map, List.replicate_succ, List.replicate_zero, List.cons_append, List.nil_append, List.set_cons_zero, List.set_cons_succ, List.getElem?_cons_zero, List.getElem?_cons_succ, Option.join_some, Option.some.injEq, exists_eq_left', decide_eq_true_eq, Nat.zero_add, true_and, and_true, if_true, if_false, Bool.not_eq_true', Bool.false_eq_true, Bool.true_eq_false, eq_ev (lat3 o h4), number_bad hp hb]
theorem at3a {α : Type} {a b c : α} : atI [a, b, c] 0 = some a := rfl
theorem at3b {α : Type} {a b c : α} : atI [a, b, c] 1 = some b := rfl
theorem at3c {α : Type} {a b c : α} : atI [a, b, c] 2 = some c := rfl
theorem refused1 {tb : Tbl} {f : Addr} {m : Fm} (ht : tb f = some (3, m)) (r : Refuses G m) (hp : Dt.plain d = true) (hb : isB 0 3 d = false) : m__law_refused tb [.raw (.ref f), .tup [G.dt, d, e]] S = .ok (.lst [d]) S := by
  refine ev_eq ?_
  have ef : (Dt.raw (.ref f)).fnT tb = some (3, m) := ht
  unfold m__law_refused
  simp only [ev_def, ev_Then, ev_Put, ev_Set, ev_Rt, ev_Drop, ev_If, ev_B, ev_Not, ev_And, ev_Or, ev_AndV, ev_OrV, ev_NotV, ev_Chain, ev_m1, ev_m2, ev_mn, ev_cons, ev_nil, ev_var, ev_c, ev_P, ev_noP, ev_Sl, ev_New, ev_RepO, ev_call, ev_App, ev_mErr, ev_sNx, ev_Asg, ev_Aug, ev_Par2, ev_Par3, ev_For, ev_Walk, ev_Lc, ev_Dc, ev_Yes, ev_Try1, ev_ret, ev_ok, ev_exc, ev_new, ev_nx, ev_bnd, ev_rd, at1_eq, at2_eq, at3_eq, aft_nx, aft_rt, aft_bk, aft_ct, out_rt, out_nx, trn_nx, trn_bk, trn_ct, trn_rt, tru_bl, asInt_int, add_int, addI_int, sub_int, ML.neg_int', ML.lt_int', ML.le_int', ML.gt_int', ML.ge_int', max_int, min_int, int_int, len_tup, len_lst, tpl_lst, tpl_tup, ML.sum_tup, sum_lst, all_lst, ix_row_tup, ix_row_lst, ML.eq_int, ML.ne_int, row_tup, row_lst, nv0, List.map_cons, List.map_nil, List.length_cons, List.length_nil, List.length_map, List.replicate_succ, List.replicate_zero, List.cons_append, List.nil_append, List.set_cons_zero, List.set_cons_succ, List.getElem?_cons_zero, List.getElem?_cons_succ, Option.join_some, Option.some.injEq, exists_eq_left', decide_eq_true_eq, Nat.zero_add, true_and, and_true, if_true, if_false, Bool.not_eq_true', Bool.false_eq_true, Bool.true_eq_false, ev_callL, ef, at3a, at3b, at3c, r.1 _ _ _ _ _ hp hb]
  simp
theorem refused2 {tb : Tbl} {f : Addr} {m : Fm} (ht : tb f = some (3, m)) (r : Refuses G m) (hp : Dt.plain e = true) (hb : isB 0 100000 e = false) : m__law_refused tb [.raw (.ref f), .tup [G.dt, .int 3, e]] S = .ok (.lst [e]) S := by
  refine ev_eq ?_
  have ef : (Dt.raw (.ref f)).fnT tb = some (3, m) := ht
  unfold m__law_refused
  simp only [ev_def, ev_Then, ev_Put, ev_Set, ev_Rt, ev_Drop, ev_If, ev_B, ev_Not, ev_And, ev_Or, ev_AndV, ev_OrV, ev_NotV, ev_Chain, ev_m1, ev_m2, ev_mn, ev_cons, ev_nil, ev_var, ev_c, ev_P, ev_noP, ev_Sl, ev_New, ev_RepO, ev_call, ev_App, ev_mErr, ev_sNx, ev_Asg, ev_Aug, ev_Par2, ev_Par3, ev_For, ev_Walk, ev_Lc, ev_Dc, ev_Yes, ev_Try1, ev_ret, ev_ok, ev_exc, ev_new, ev_nx, ev_bnd, ev_rd, at1_eq, at2_eq, at3_eq, aft_nx, aft_rt, aft_bk, aft_ct, out_rt, out_nx, trn_nx, trn_bk, trn_ct, trn_rt, tru_bl, asInt_int, add_int, addI_int, sub_int, ML.neg_int', ML.lt_int', ML.le_int', ML.gt_int', ML.ge_int', max_int, min_int, int_int, len_tup, len_lst, tpl_lst, tpl_tup, ML.sum_tup, sum_lst, all_lst, ix_row_tup, ix_row_lst, ML.eq_int, ML.ne_int, row_tup, row_lst, nv0, List.map_cons, List.map_nil, List.length_cons, List.length_nil, List.length_map, List.replicate_succ, List.replicate_zero, List.cons_append, List.nil_append, List.set_cons_zero, List.set_cons_succ, List.getElem?_cons_zero, List.getElem?_cons_succ, Option.join_some, Option.some.injEq, exists_eq_left', decide_eq_true_eq, Nat.zero_add, true_and, and_true, if_true, if_false, Bool.not_eq_true', Bool.false_eq_true, Bool.true_eq_false, ev_callL, ef, at3a, at3b, at3c, r.2 _ _ _ _ hp hb]
  simp
end
theorem law_ev {tb : Tbl} {f1 f2 f3 : Addr} (t1 : tb f1 = some (3, m_gave)) (t2 : tb f2 = some (3, m_took)) (t3 : tb f3 = some (3, m_need)) {ns : List Int} (hn : ns.length ≤ 63) : Ev NoE (m_law tb f1 f2 f3 [.scr ns] []) fun r _ => r = .bl true := by
  unfold m_law
  simp only [ev_def, ev_Then, ev_Put, ev_Set, ev_Rt, ev_Drop, ev_If, ev_B, ev_Not, ev_And, ev_Or, ev_AndV, ev_OrV, ev_NotV, ev_Chain, ev_m1, ev_m2, ev_mn, ev_cons, ev_nil, ev_var, ev_c, ev_P, ev_noP, ev_Sl, ev_New, ev_RepO, ev_call, ev_App, ev_mErr, ev_sNx, ev_Asg, ev_Aug, ev_Par2, ev_Par3, ev_For, ev_Walk, ev_Lc, ev_Dc, ev_Yes, ev_Try1, ev_ret, ev_ok, ev_exc, ev_new, ev_nx, ev_bnd, ev_rd, at1_eq, at2_eq, at3_eq, aft_nx, aft_rt, aft_bk, aft_ct, out_rt, out_nx, trn_nx, trn_bk, trn_ct, trn_rt, tru_bl, asInt_int, add_int, addI_int, sub_int, ML.neg_int', ML.lt_int', ML.le_int', ML.gt_int', ML.ge_int', max_int, min_int, int_int, len_tup, len_lst, tpl_lst, tpl_tup, ML.sum_tup, sum_lst, all_lst, ix_row_tup, ix_row_lst, ML.eq_int, ML.ne_int, row_tup, row_lst, nv0, List.map_cons, List.map_nil, List.length_cons, List.length_nil, List.length_map, List.replicate_succ, List.replicate_zero, List.cons_append, List.nil_append, List.set_cons_zero, List.set_cons_succ, List.getElem?_cons_zero, List.getElem?_cons_succ, Option.join_some, Option.some.injEq, exists_eq_left', decide_eq_true_eq, Nat.zero_add, true_and, and_true, if_true, if_false, Bool.not_eq_true', Bool.false_eq_true, Bool.true_eq_false, ev_Rng1, rng1_eq]
  refine (source_ev hn).imp ?_
  rintro _ S0 ⟨rfl, rfl⟩
  refine ⟨rng_sm _ (by decide) (by decide), ?_⟩
  refine ev_forGo (I := fun items ρ S1 => ∃ (x2 x5 x6 : Option Dt), ρ = [some (.scr ns), some (.obj 0), x2, none, none, x5, x6, none, none] ∧ Src 0 S1 ∧ (items.length = 4 ∨ ∃ G : Gr, x5 = some G.dt ∧ GrOk G ∧ G.ls.length = 4)) ?_ ?_ _ _ _ ⟨none, none, none, rfl, src_start hn, .inl rfl⟩
  · rintro d r ρ S1 ⟨x2, x5, x6, rfl, hs1, _⟩
    refine ⟨trivial, _, rfl, ?_⟩
    simp only [ev_def, ev_Then, ev_Put, ev_Set, ev_Rt, ev_Drop, ev_If, ev_B, ev_Not, ev_And, ev_Or, ev_AndV, ev_OrV, ev_NotV, ev_Chain, ev_m1, ev_m2, ev_mn, ev_cons, ev_nil, ev_var, ev_c, ev_P, ev_noP, ev_Sl, ev_New, ev_RepO, ev_call, ev_App, ev_mErr, ev_sNx, ev_Asg, ev_Aug, ev_Par2, ev_Par3, ev_For, ev_Walk, ev_Lc, ev_Dc, ev_Yes, ev_Try1, ev_ret, ev_ok, ev_exc, ev_new, ev_nx, ev_bnd, ev_rd, at1_eq, at2_eq, at3_eq, aft_nx, aft_rt, aft_bk, aft_ct, out_rt, out_nx, trn_nx, trn_bk, trn_ct, trn_rt, tru_bl, asInt_int, add_int, addI_int, sub_int, ML.neg_int', ML.lt_int', ML.le_int', ML.gt_int', ML.ge_int', max_int, min_int, int_int, len_tup, len_lst, tpl_lst, tpl_tup, ML.sum_tup, sum_lst, all_lst, ix_row_tup, ix_row_lst, ML.eq_int, ML.ne_int, row_tup, row_lst, nv0, List.map_cons, List.map_nil, List.length_cons, List.length_nil, List.length_map, List.replicate_succ, List.replicate_zero, List.cons_append, List.nil_append, List.set_cons_zero, List.set_cons_succ, List.getElem?_cons_zero, List.getElem?_cons_succ, Option.join_some, Option.some.injEq, exists_eq_left', decide_eq_true_eq, Nat.zero_add, true_and, and_true, if_true, if_false, Bool.not_eq_true', Bool.false_eq_true, Bool.true_eq_false]
    refine (farline_ev hs1).imp ?_
    rintro _ S2 ⟨⟨G, rfl, o, h4⟩, hs2, _⟩
    simp only [ev_def, ev_Then, ev_Put, ev_Set, ev_Rt, ev_Drop, ev_If, ev_B, ev_Not, ev_And, ev_Or, ev_AndV, ev_OrV, ev_NotV, ev_Chain, ev_m1, ev_m2, ev_mn, ev_cons, ev_nil, ev_var, ev_c, ev_P, ev_noP, ev_Sl, ev_New, ev_RepO, ev_call, ev_App, ev_mErr, ev_sNx, ev_Asg, ev_Aug, ev_Par2, ev_Par3, ev_For, ev_Walk, ev_Lc, ev_Dc, ev_Yes, ev_Try1, ev_ret, ev_ok, ev_exc, ev_new, ev_nx, ev_bnd, ev_rd, at1_eq, at2_eq, at3_eq, aft_nx, aft_rt, aft_bk, aft_ct, out_rt, out_nx, trn_nx, trn_bk, trn_ct, trn_rt, tru_bl, asInt_int, add_int, addI_int, sub_int, ML.neg_int', ML.lt_int', ML.le_int', ML.gt_int', ML.ge_int', max_int, min_int, int_int, len_tup, len_lst, tpl_lst, tpl_tup, ML.sum_tup, sum_lst, all_lst, ix_row_tup, ix_row_lst, ML.eq_int, ML.ne_int, row_tup, row_lst, nv0, List.map_cons, List.map_nil, List.length_cons, List.length_nil, List.length_map, List.replicate_succ, List.replicate_zero, List.cons_append, List.nil_append, List.set_cons_zero, List.set_cons_succ, List.getElem?_cons_zero, List.getElem?_cons_succ, Option.join_some, Option.some.injEq, exists_eq_left', decide_eq_true_eq, Nat.zero_add, true_and, and_true, if_true, if_false, Bool.not_eq_true', Bool.false_eq_true, Bool.true_eq_false, ev_Rng1, rng1_eq]
    refine ⟨rng_sm _ (by decide) (by decide), ?_⟩
    refine ev_forGo (I := fun items ρ S3 => ∃ x6 : Option Dt, ρ = [some (.scr ns), some (.obj 0), some d, none, none, some G.dt, x6, none, none] ∧ Src 0 S3 ∧ ∀ x ∈ items, ∃ n : Nat, n < 4 ∧ x = .int n) ?_ ?_ _ _ _ ⟨x6, rfl, hs2, ?_⟩
    · rintro y r' ρ S3 ⟨x6', rfl, hs3, hi⟩
      obtain ⟨n, hn4, rfl⟩ := hi y List.mem_cons_self
      refine ⟨trivial, _, rfl, ?_⟩
      simp only [ev_def, ev_Then, ev_Put, ev_Set, ev_Rt, ev_Drop, ev_If, ev_B, ev_Not, ev_And, ev_Or, ev_AndV, ev_OrV, ev_NotV, ev_Chain, ev_m1, ev_m2, ev_mn, ev_cons, ev_nil, ev_var, ev_c, ev_P, ev_noP, ev_Sl, ev_New, ev_RepO, ev_call, ev_App, ev_mErr, ev_sNx, ev_Asg, ev_Aug, ev_Par2, ev_Par3, ev_For, ev_Walk, ev_Lc, ev_Dc, ev_Yes, ev_Try1, ev_ret, ev_ok, ev_exc, ev_new, ev_nx, ev_bnd, ev_rd, at1_eq, at2_eq, at3_eq, aft_nx, aft_rt, aft_bk, aft_ct, out_rt, out_nx, trn_nx, trn_bk, trn_ct, trn_rt, tru_bl, asInt_int, add_int, addI_int, sub_int, ML.neg_int', ML.lt_int', ML.le_int', ML.gt_int', ML.ge_int', max_int, min_int, int_int, len_tup, len_lst, tpl_lst, tpl_tup, ML.sum_tup, sum_lst, all_lst, ix_row_tup, ix_row_lst, ML.eq_int, ML.ne_int, row_tup, row_lst, nv0, List.map_cons, List.map_nil, List.length_cons, List.length_nil, List.length_map, List.replicate_succ, List.replicate_zero, List.cons_append, List.nil_append, List.set_cons_zero, List.set_cons_succ, List.getElem?_cons_zero, List.getElem?_cons_succ, Option.join_some, Option.some.injEq, exists_eq_left', decide_eq_true_eq, Nat.zero_add, true_and, and_true, if_true, if_false, Bool.not_eq_true', Bool.false_eq_true, Bool.true_eq_false]
      refine (line_right (n := n) o (by omega) hs3).imp ?_
      rintro _ S4 ⟨rfl, hs4, _⟩
      simp only [ev_def, ev_Then, ev_Put, ev_Set, ev_Rt, ev_Drop, ev_If, ev_B, ev_Not, ev_And, ev_Or, ev_AndV, ev_OrV, ev_NotV, ev_Chain, ev_m1, ev_m2, ev_mn, ev_cons, ev_nil, ev_var, ev_c, ev_P, ev_noP, ev_Sl, ev_New, ev_RepO, ev_call, ev_App, ev_mErr, ev_sNx, ev_Asg, ev_Aug, ev_Par2, ev_Par3, ev_For, ev_Walk, ev_Lc, ev_Dc, ev_Yes, ev_Try1, ev_ret, ev_ok, ev_exc, ev_new, ev_nx, ev_bnd, ev_rd, at1_eq, at2_eq, at3_eq, aft_nx, aft_rt, aft_bk, aft_ct, out_rt, out_nx, trn_nx, trn_bk, trn_ct, trn_rt, tru_bl, asInt_int, add_int, addI_int, sub_int, ML.neg_int', ML.lt_int', ML.le_int', ML.gt_int', ML.ge_int', max_int, min_int, int_int, len_tup, len_lst, tpl_lst, tpl_tup, ML.sum_tup, sum_lst, all_lst, ix_row_tup, ix_row_lst, ML.eq_int, ML.ne_int, row_tup, row_lst, nv0, List.map_cons, List.map_nil, List.length_cons, List.length_nil, List.length_map, List.replicate_succ, List.replicate_zero, List.cons_append, List.nil_append, List.set_cons_zero, List.set_cons_succ, List.getElem?_cons_zero, List.getElem?_cons_succ, Option.join_some, Option.some.injEq, exists_eq_left', decide_eq_true_eq, Nat.zero_add, true_and, and_true, if_true, if_false, Bool.not_eq_true', Bool.false_eq_true, Bool.true_eq_false]
      exact ⟨_, rfl, hs4, fun x hx => hi x (List.mem_cons_of_mem _ hx)⟩
    · rintro ρ S3 ⟨x6', rfl, hs3, _⟩
      exact ⟨trivial, _, _, _, rfl, hs3, .inr ⟨G, rfl, o, h4⟩⟩
    · intro x hx
      obtain ⟨i, hi, rfl⟩ := List.mem_map.mp hx
      have hi : i < 4 := List.mem_range.mp hi
      exact ⟨i, hi, by congr 1; omega⟩
  · rintro ρ S1 ⟨x2, x5, x6, rfl, hs1, h | ⟨G, rfl, o, h4⟩⟩
    · cases h
    · refine ⟨trivial, ?_⟩
      simp only [ev_def, ev_Then, ev_Put, ev_Set, ev_Rt, ev_Drop, ev_If, ev_B, ev_Not, ev_And, ev_Or, ev_AndV, ev_OrV, ev_NotV, ev_Chain, ev_m1, ev_m2, ev_mn, ev_cons, ev_nil, ev_var, ev_c, ev_P, ev_noP, ev_Sl, ev_New, ev_RepO, ev_call, ev_App, ev_mErr, ev_sNx, ev_Asg, ev_Aug, ev_Par2, ev_Par3, ev_For, ev_Walk, ev_Lc, ev_Dc, ev_Yes, ev_Try1, ev_ret, ev_ok, ev_exc, ev_new, ev_nx, ev_bnd, ev_rd, at1_eq, at2_eq, at3_eq, aft_nx, aft_rt, aft_bk, aft_ct, out_rt, out_nx, trn_nx, trn_bk, trn_ct, trn_rt, tru_bl, asInt_int, add_int, addI_int, sub_int, ML.neg_int', ML.lt_int', ML.le_int', ML.gt_int', ML.ge_int', max_int, min_int, int_int, len_tup, len_lst, tpl_lst, tpl_tup, ML.sum_tup, sum_lst, all_lst, ix_row_tup, ix_row_lst, ML.eq_int, ML.ne_int, row_tup, row_lst, nv0, List.map_cons, List.map_nil, List.length_cons, List.length_nil, List.length_map, List.replicate_succ, List.replicate_zero, List.cons_append, List.nil_append, List.set_cons_zero, List.set_cons_succ, List.getElem?_cons_zero, List.getElem?_cons_succ, Option.join_some, Option.some.injEq, exists_eq_left', decide_eq_true_eq, Nat.zero_add, true_and, and_true, if_true, if_false, Bool.not_eq_true', Bool.false_eq_true, Bool.true_eq_false]
      refine ⟨_, rfl, _, rfl, _, rfl, _, rfl, ?_⟩
      refine ev_forGo (I := fun items ρ S3 => ∃ (x4 x7 x8 : Option Dt), ρ = [some (.scr ns), some (.obj 0), x2, some (.lst odds), x4, some G.dt, x6, x7, x8] ∧ Src 0 S3 ∧ ∀ d ∈ items, ∃ (f : Addr) (m : Fm), d = .raw (.ref f) ∧ tb f = some (3, m) ∧ Refuses G m) ?_ ?_ _ _ _ ⟨none, none, none, rfl, hs1, ?_⟩
      · rintro d r ρ S3 ⟨x4, x7, x8, rfl, hs3, hi⟩
        obtain ⟨f, m, rfl, tf, rf⟩ := hi d List.mem_cons_self
        refine ⟨trivial, _, rfl, ?_⟩
        simp only [ev_def, ev_Then, ev_Put, ev_Set, ev_Rt, ev_Drop, ev_If, ev_B, ev_Not, ev_And, ev_Or, ev_AndV, ev_OrV, ev_NotV, ev_Chain, ev_m1, ev_m2, ev_mn, ev_cons, ev_nil, ev_var, ev_c, ev_P, ev_noP, ev_Sl, ev_New, ev_RepO, ev_call, ev_App, ev_mErr, ev_sNx, ev_Asg, ev_Aug, ev_Par2, ev_Par3, ev_For, ev_Walk, ev_Lc, ev_Dc, ev_Yes, ev_Try1, ev_ret, ev_ok, ev_exc, ev_new, ev_nx, ev_bnd, ev_rd, at1_eq, at2_eq, at3_eq, aft_nx, aft_rt, aft_bk, aft_ct, out_rt, out_nx, trn_nx, trn_bk, trn_ct, trn_rt, tru_bl, asInt_int, add_int, addI_int, sub_int, ML.neg_int', ML.lt_int', ML.le_int', ML.gt_int', ML.ge_int', max_int, min_int, int_int, len_tup, len_lst, tpl_lst, tpl_tup, ML.sum_tup, sum_lst, all_lst, ix_row_tup, ix_row_lst, ML.eq_int, ML.ne_int, row_tup, row_lst, nv0, List.map_cons, List.map_nil, List.length_cons, List.length_nil, List.length_map, List.replicate_succ, List.replicate_zero, List.cons_append, List.nil_append, List.set_cons_zero, List.set_cons_succ, List.getElem?_cons_zero, List.getElem?_cons_succ, Option.join_some, Option.some.injEq, exists_eq_left', decide_eq_true_eq, Nat.zero_add, true_and, and_true, if_true, if_false, Bool.not_eq_true', Bool.false_eq_true, Bool.true_eq_false]
        refine (one_ev hs3 (by decide) (by decide)).imp ?_
        rintro x S4 ⟨hx, hs4, _⟩
        obtain ⟨ox, bx⟩ := odd_ok x hx
        refine ⟨_, rfl, ?_⟩
        refine (one_ev hs4 (by simp) (by simp)).imp ?_
        rintro y S5 ⟨hy, hs5, _⟩
        obtain ⟨oy, byy⟩ := wrong_ok y hy
        obtain ⟨px, ex, sx⟩ := ox.sw
        obtain ⟨py, ey, sy⟩ := oy.sw
        have l1 : ∀ (z : Dt) (S : Sto), fLst [z] S = some (.lst [z]) := fun z S => lst_new (by show 1 ≤ 1000; decide)
        have l3 : ∀ (u v w : Dt) (S : Sto), fTup [u, v, w] S = some (.tup [u, v, w]) := fun u v w S => tup_new (by show 3 ≤ 1000; decide)
        simp only [ev_def, ev_Then, ev_Put, ev_Set, ev_Rt, ev_Drop, ev_If, ev_B, ev_Not, ev_And, ev_Or, ev_AndV, ev_OrV, ev_NotV, ev_Chain, ev_m1, ev_m2, ev_mn, ev_cons, ev_nil, ev_var, ev_c, ev_P, ev_noP, ev_Sl, ev_New, ev_RepO, ev_call, ev_App, ev_mErr, ev_sNx, ev_Asg, ev_Aug, ev_Par2, ev_Par3, ev_For, ev_Walk, ev_Lc, ev_Dc, ev_Yes, ev_Try1, ev_ret, ev_ok, ev_exc, ev_new, ev_nx, ev_bnd, ev_rd, at1_eq, at2_eq, at3_eq, aft_nx, aft_rt, aft_bk, aft_ct, out_rt, out_nx, trn_nx, trn_bk, trn_ct, trn_rt, tru_bl, asInt_int, add_int, addI_int, sub_int, ML.neg_int', ML.lt_int', ML.le_int', ML.gt_int', ML.ge_int', max_int, min_int, int_int, len_tup, len_lst, tpl_lst, tpl_tup, ML.sum_tup, sum_lst, all_lst, ix_row_tup, ix_row_lst, ML.eq_int, ML.ne_int, row_tup, row_lst, nv0, List.map_cons, List.map_nil, List.length_cons, List.length_nil, List.length_map, List.replicate_succ, List.replicate_zero, List.cons_append, List.nil_append, List.set_cons_zero, List.set_cons_succ, List.getElem?_cons_zero, List.getElem?_cons_succ, Option.join_some, Option.some.injEq, exists_eq_left', decide_eq_true_eq, Nat.zero_add, true_and, and_true, if_true, if_false, Bool.not_eq_true', Bool.false_eq_true, Bool.true_eq_false, l1, l3, eq_ev (refused1 tf rf ox.pl bx), eq_ev (refused2 tf rf oy.pl byy), eq_ev (same_eq ex sx), eq_ev (same_eq ey sy), Bool.not_true]
        exact ⟨_, _, _, rfl, hs5, fun d hd => hi d (List.mem_cons_of_mem _ hd)⟩
      · rintro ρ S3 ⟨x4, x7, x8, rfl, hs3, hi⟩
        exact ⟨trivial, rfl⟩
      · intro d hd
        have hd : d ∈ [Dt.raw (.ref f1), Dt.raw (.ref f2), Dt.raw (.ref f3)] := hd
        simp only [List.mem_cons, List.not_mem_nil, or_false] at hd
        rcases hd with rfl | rfl | rfl
        · exact ⟨f1, _, rfl, t1, gave_no o h4⟩
        · exact ⟨f2, _, rfl, t2, took_no o h4⟩
        · exact ⟨f3, _, rfl, t3, need_no o h4⟩
theorem law_true {f1 f2 f3 : Addr} (n1 : f1 ≠ f2) (n2 : f1 ≠ f3) (n3 : f2 ≠ f3) (ns : List Int) (hn : ns.length ≤ 63) : ∃ S, m_law (tbOf f1 f2 f3) f1 f2 f3 [.scr ns] [] = .ok (.bl true) S := by
  have t1 : tbOf f1 f2 f3 f1 = some (3, m_gave) := if_pos rfl
  have t2 : tbOf f1 f2 f3 f2 = some (3, m_took) := (if_neg n1.symm).trans (if_pos rfl)
  have t3 : tbOf f1 f2 f3 f3 = some (3, m_need) := (if_neg n2.symm).trans ((if_neg n3.symm).trans (if_pos rfl))
  obtain ⟨r, S, e, rfl⟩ := (law_ev t1 t2 t3 hn).of
  exact ⟨S, e⟩
end Plain

open PySem PySem.W PyProof.Rows
set_option maxHeartbeats 0 in
set_option maxRecDepth 100000 in
theorem PySem.Challenge.cw_evenrates_k01_whole_needs_far_away_holds : PySem.Challenge.rw_evenrates_k01_whole_needs_far_away.Holds := by
  w_on; o_law; k_head; (case hw => w_witness2)
  k_fill
  refine ML.walk_law (l := PySem.Challenge.rw_evenrates_k01_whole_needs_far_away) (n := 63) (k := 11) (x := "script") rfl (by decide) rfl ⟨rfl, by decide, by decide⟩ (fun w h Y => PySem.W.kIn_of Y) ?F
  case F =>
    intro w mg fa h KX G hmg
    refine' Walk.all_mk KX G hmg ?a_is_whole ?l_is_whole ?c_is_whole ?k_is_whole ?a_is_between ?l_is_between ?c_is_between ?k_is_between ?a_is_tuple_of ?l_is_tuple_of ?c_is_tuple_of ?k_is_tuple_of ?a_are_between ?l_are_between ?c_are_between ?k_are_between ?a_is_name ?l_is_name ?c_is_name ?k_is_name ?a_need_number ?l_need_number ?c_need_number ?k_need_number ?a_task_names ?l_task_names ?c_task_names ?k_task_names ?a_is_task ?l_is_task ?c_is_task ?k_is_task ?a_is_line ?l_is_line ?c_is_line ?k_is_line ?a_has_graph_form ?l_has_graph_form ?c_has_graph_form ?k_has_graph_form ?a_fits ?l_fits ?c_fits ?k_fits ?a_look_at_graph ?l_look_at_graph ?c_look_at_graph ?k_look_at_graph ?a_counted ?l_counted ?c_counted ?k_counted ?a_least_count ?l_least_count ?c_least_count ?k_least_count ?a_need_told ?l_need_told ?c_need_told ?k_need_told ?a_look_at_line ?l_look_at_line ?c_look_at_line ?k_look_at_line ?a_gave ?l_gave ?c_gave ?k_gave ?a_took ?l_took ?c_took ?k_took ?a_need ?l_need ?c_need ?k_need ?a__law_source ?l__law_source ?c__law_source ?k__law_source ?a__law_pick ?l__law_pick ?c__law_pick ?k__law_pick ?a__law_one ?l__law_one ?c__law_one ?k__law_one ?a__law_same ?l__law_same ?c__law_same ?k__law_same ?a__law_called ?l__law_called ?c__law_called ?k__law_called ?a__law_shared ?l__law_shared ?c__law_shared ?k__law_shared ?a__law_parted ?l__law_parted ?c__law_parted ?k__law_parted ?a__law_sum ?l__law_sum ?c__law_sum ?k__law_sum ?a__law_far ?l__law_far ?c__law_far ?k__law_far ?a__law_digits ?l__law_digits ?c__law_digits ?k__law_digits ?a__law_rare ?l__law_rare ?c__law_rare ?k__law_rare ?a__law_far_line ?l__law_far_line ?c__law_far_line ?k__law_far_line ?a__law_rise ?l__law_rise ?c__law_rise ?k__law_rise ?a__law_need_right ?l__law_need_right ?c__law_need_right ?k__law_need_right ?a__law_line_right ?l__law_line_right ?c__law_line_right ?k__law_line_right ?a__law_refused ?l__law_refused ?c__law_refused ?k__law_refused ?a_law ?l_law ?c_law ?k_law ?g_FIGURES ?g_LETTERS ?g_MOST_FIRINGS ?g_MOST_LINES ?g_MOST_PHASES ?g_MOST_STOCK ?g_MOST_TASKS ?b_all ?b_bool ?b_divmod ?b_int ?b_isinstance ?b_len ?b_list ?b_max ?b_min ?b_range ?b_repr ?b_set ?b_str ?b_sum ?b_tuple ?a_RateError ?rd_RateError ?ga_RateError ?ai_RateError ?a_BadGraph ?xl_BadGraph ?bm_BadGraph' ?sa_BadGraph ?ex_BadGraph ?ty_BadGraph ?ke_BadGraph ?in_BadGraph ?ti_BadGraph ?nf_BadGraph ?il_BadGraph ?ic_BadGraph ?ik_BadGraph ?a_BadNumber ?xl_BadNumber ?bm_BadNumber' ?sa_BadNumber ?ex_BadNumber ?ty_BadNumber ?ke_BadNumber ?in_BadNumber ?ti_BadNumber ?nf_BadNumber ?il_BadNumber ?ic_BadNumber ?ik_BadNumber ?xa_BadNumber ?xg_BadNumber ?xd_BadNumber ?xm_BadNumber_BadGraph ?xm_BadNumber_BadNumber ?ne_gave_took ?ne_gave_need ?ne_took_need ?true_
    (case a_is_whole => first | k_is | rfl)
    (case l_is_whole => first | k_is | rfl)
    (case c_is_whole => first | k_is | rfl)
    (case k_is_whole => first | k_is | rfl)
    (case a_is_between => first | k_is | rfl)
    (case l_is_between => first | k_is | rfl)
    (case c_is_between => first | k_is | rfl)
    (case k_is_between => first | k_is | rfl)
    (case a_is_tuple_of => first | k_is | rfl)
    (case l_is_tuple_of => first | k_is | rfl)
    (case c_is_tuple_of => first | k_is | rfl)
    (case k_is_tuple_of => first | k_is | rfl)
    (case a_are_between => first | k_is | rfl)
    (case l_are_between => first | k_is | rfl)
    (case c_are_between => first | k_is | rfl)
    (case k_are_between => first | k_is | rfl)
    (case a_is_name => first | k_is | rfl)
    (case l_is_name => first | k_is | rfl)
    (case c_is_name => first | k_is | rfl)
    (case k_is_name => first | k_is | rfl)
    (case a_need_number => first | k_is | rfl)
    (case l_need_number => first | k_is | rfl)
    (case c_need_number => first | k_is | rfl)
    (case k_need_number => first | k_is | rfl)
    (case a_task_names => first | k_is | rfl)
    (case l_task_names => first | k_is | rfl)
    (case c_task_names => first | k_is | rfl)
    (case k_task_names => first | k_is | rfl)
    (case a_is_task => first | k_is | rfl)
    (case l_is_task => first | k_is | rfl)
    (case c_is_task => first | k_is | rfl)
    (case k_is_task => first | k_is | rfl)
    (case a_is_line => first | k_is | rfl)
    (case l_is_line => first | k_is | rfl)
    (case c_is_line => first | k_is | rfl)
    (case k_is_line => first | k_is | rfl)
    (case a_has_graph_form => first | k_is | rfl)
    (case l_has_graph_form => first | k_is | rfl)
    (case c_has_graph_form => first | k_is | rfl)
    (case k_has_graph_form => first | k_is | rfl)
    (case a_fits => first | k_is | rfl)
    (case l_fits => first | k_is | rfl)
    (case c_fits => first | k_is | rfl)
    (case k_fits => first | k_is | rfl)
    (case a_look_at_graph => first | k_is | rfl)
    (case l_look_at_graph => first | k_is | rfl)
    (case c_look_at_graph => first | k_is | rfl)
    (case k_look_at_graph => first | k_is | rfl)
    (case a_counted => first | k_is | rfl)
    (case l_counted => first | k_is | rfl)
    (case c_counted => first | k_is | rfl)
    (case k_counted => first | k_is | rfl)
    (case a_least_count => first | k_is | rfl)
    (case l_least_count => first | k_is | rfl)
    (case c_least_count => first | k_is | rfl)
    (case k_least_count => first | k_is | rfl)
    (case a_need_told => first | k_is | rfl)
    (case l_need_told => first | k_is | rfl)
    (case c_need_told => first | k_is | rfl)
    (case k_need_told => first | k_is | rfl)
    (case a_look_at_line => first | k_is | rfl)
    (case l_look_at_line => first | k_is | rfl)
    (case c_look_at_line => first | k_is | rfl)
    (case k_look_at_line => first | k_is | rfl)
    (case a_gave => first | k_is | rfl)
    (case l_gave => first | k_is | rfl)
    (case c_gave => first | k_is | rfl)
    (case k_gave => first | k_is | rfl)
    (case a_took => first | k_is | rfl)
    (case l_took => first | k_is | rfl)
    (case c_took => first | k_is | rfl)
    (case k_took => first | k_is | rfl)
    (case a_need => first | k_is | rfl)
    (case l_need => first | k_is | rfl)
    (case c_need => first | k_is | rfl)
    (case k_need => first | k_is | rfl)
    (case a__law_source => first | k_is | rfl)
    (case l__law_source => first | k_is | rfl)
    (case c__law_source => first | k_is | rfl)
    (case k__law_source => first | k_is | rfl)
    (case a__law_pick => first | k_is | rfl)
    (case l__law_pick => first | k_is | rfl)
    (case c__law_pick => first | k_is | rfl)
    (case k__law_pick => first | k_is | rfl)
    (case a__law_one => first | k_is | rfl)
    (case l__law_one => first | k_is | rfl)
    (case c__law_one => first | k_is | rfl)
    (case k__law_one => first | k_is | rfl)
    (case a__law_same => first | k_is | rfl)
    (case l__law_same => first | k_is | rfl)
    (case c__law_same => first | k_is | rfl)
    (case k__law_same => first | k_is | rfl)
    (case a__law_called => first | k_is | rfl)
    (case l__law_called => first | k_is | rfl)
    (case c__law_called => first | k_is | rfl)
    (case k__law_called => first | k_is | rfl)
    (case a__law_shared => first | k_is | rfl)
    (case l__law_shared => first | k_is | rfl)
    (case c__law_shared => first | k_is | rfl)
    (case k__law_shared => first | k_is | rfl)
    (case a__law_parted => first | k_is | rfl)
    (case l__law_parted => first | k_is | rfl)
    (case c__law_parted => first | k_is | rfl)
    (case k__law_parted => first | k_is | rfl)
    (case a__law_sum => first | k_is | rfl)
    (case l__law_sum => first | k_is | rfl)
    (case c__law_sum => first | k_is | rfl)
    (case k__law_sum => first | k_is | rfl)
    (case a__law_far => first | k_is | rfl)
    (case l__law_far => first | k_is | rfl)
    (case c__law_far => first | k_is | rfl)
    (case k__law_far => first | k_is | rfl)
    (case a__law_digits => first | k_is | rfl)
    (case l__law_digits => first | k_is | rfl)
    (case c__law_digits => first | k_is | rfl)
    (case k__law_digits => first | k_is | rfl)
    (case a__law_rare => first | k_is | rfl)
    (case l__law_rare => first | k_is | rfl)
    (case c__law_rare => first | k_is | rfl)
    (case k__law_rare => first | k_is | rfl)
    (case a__law_far_line => first | k_is | rfl)
    (case l__law_far_line => first | k_is | rfl)
    (case c__law_far_line => first | k_is | rfl)
    (case k__law_far_line => first | k_is | rfl)
    (case a__law_rise => first | k_is | rfl)
    (case l__law_rise => first | k_is | rfl)
    (case c__law_rise => first | k_is | rfl)
    (case k__law_rise => first | k_is | rfl)
    (case a__law_need_right => first | k_is | rfl)
    (case l__law_need_right => first | k_is | rfl)
    (case c__law_need_right => first | k_is | rfl)
    (case k__law_need_right => first | k_is | rfl)
    (case a__law_line_right => first | k_is | rfl)
    (case l__law_line_right => first | k_is | rfl)
    (case c__law_line_right => first | k_is | rfl)
    (case k__law_line_right => first | k_is | rfl)
    (case a__law_refused => first | k_is | rfl)
    (case l__law_refused => first | k_is | rfl)
    (case c__law_refused => first | k_is | rfl)
    (case k__law_refused => first | k_is | rfl)
    (case a_law => first | k_is | rfl)
    (case l_law => first | k_is | rfl)
    (case c_law => first | k_is | rfl)
    (case k_law => first | k_is | rfl)
    (case g_FIGURES => first | k_is | rfl)
    (case g_LETTERS => first | k_is | rfl)
    (case g_MOST_FIRINGS => first | k_is | rfl)
    (case g_MOST_LINES => first | k_is | rfl)
    (case g_MOST_PHASES => first | k_is | rfl)
    (case g_MOST_STOCK => first | k_is | rfl)
    (case g_MOST_TASKS => first | k_is | rfl)
    (case b_all => first | k_is | rfl)
    (case b_bool => first | k_is | rfl)
    (case b_divmod => first | k_is | rfl)
    (case b_int => first | k_is | rfl)
    (case b_isinstance => first | k_is | rfl)
    (case b_len => first | k_is | rfl)
    (case b_list => first | k_is | rfl)
    (case b_max => first | k_is | rfl)
    (case b_min => first | k_is | rfl)
    (case b_range => first | k_is | rfl)
    (case b_repr => first | k_is | rfl)
    (case b_set => first | k_is | rfl)
    (case b_str => first | k_is | rfl)
    (case b_sum => first | k_is | rfl)
    (case b_tuple => first | k_is | rfl)
    (case a_RateError => first | k_is | rfl)
    (case rd_RateError => first | k_is | rfl)
    (case ga_RateError => first | k_is | rfl)
    (case ai_RateError => first | k_is | rfl)
    (case a_BadGraph => first | k_is | rfl)
    (case xl_BadGraph => first | k_is | rfl)
    (case bm_BadGraph' => decide +kernel)
    (case sa_BadGraph => first | k_is | rfl)
    (case ex_BadGraph => first | k_is | rfl)
    (case ty_BadGraph => first | k_is | rfl)
    (case ke_BadGraph => first | k_is | rfl)
    (case in_BadGraph => first | k_is | rfl)
    (case ti_BadGraph => first | k_is | rfl)
    (case nf_BadGraph => first | k_is | rfl)
    (case il_BadGraph => first | k_is | rfl)
    (case ic_BadGraph => first | k_is | rfl)
    (case ik_BadGraph => first | k_is | rfl)
    (case a_BadNumber => first | k_is | rfl)
    (case xl_BadNumber => first | k_is | rfl)
    (case bm_BadNumber' => decide +kernel)
    (case sa_BadNumber => first | k_is | rfl)
    (case ex_BadNumber => first | k_is | rfl)
    (case ty_BadNumber => first | k_is | rfl)
    (case ke_BadNumber => first | k_is | rfl)
    (case in_BadNumber => first | k_is | rfl)
    (case ti_BadNumber => first | k_is | rfl)
    (case nf_BadNumber => first | k_is | rfl)
    (case il_BadNumber => first | k_is | rfl)
    (case ic_BadNumber => first | k_is | rfl)
    (case ik_BadNumber => first | k_is | rfl)
    (case xa_BadNumber => first | k_is | rfl)
    (case xg_BadNumber => first | k_is | rfl)
    (case xd_BadNumber => first | k_is | rfl)
    (case xm_BadNumber_BadGraph => first | k_is | rfl)
    (case xm_BadNumber_BadNumber => first | k_is | rfl)
    (case ne_gave_took => decide)
    (case ne_gave_need => decide)
    (case ne_took_need => decide)
    (case true_ => exact Plain.law_true (by decide) (by decide) (by decide))
