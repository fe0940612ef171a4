import PyProof.Rows.All
import Wide.All
import OpenK.AllK
import Wide.FinOn
import HandS.ForMost
import HandS.TupAny
import HandS.TupMul
import HandS.Style
import HandS.Wide
import HandS.IsInst
import HandS.StrMore
import HandS.Zip
import HandS.Deep
import HandS.RaiseMore
import HandS.SortInts
import HandS.Conv
import PyProof.ReprRoads
import PyProof.ReprLen
import PyProof.StrLawsRepr
import PyProof.FitsInt
import HandS.Star
import HandS.Defaults
import HandS.Words
import HandS.Ends
import HandS.Iter
import KE.KRevSl
import HandS.Codes
import PySem.Challenge.RW_onestrokeatatime_k03_whole_delays
import KE.KStateDown
import Lean
import HandS.Base
import HandS.Call
import HandS.More
import HandS.WordsExc
import HandS.Head0
import HandS.Head1
import HandS.Head2
import HandS.HeadEnd
import HandS.HeadHook1
import HandS.HeadHook2
set_option Elab.async false
set_option linter.all false
set_option maxRecDepth 1000000
set_option maxHeartbeats 0
/-! Pv1: data as trees, a store of lists that change, how both lie in the heap. -/
namespace Pv
open PySem PySem.Spec PyProof.Rows L2

/-! ### data, cells, the store -/
inductive D where
  | non
  | bl (b : Bool)
  | int (i : Int)
  | str (x : Str)
  | tup (xs : List D)
  | lst (xs : List D)
  | cell (k : Nat)
  | ty (n : String)
  | scr (xs : List D)
instance : Inhabited D := ⟨.non⟩
/-- what changes: a list -/
inductive Cl where
  | lst (xs : List D)
abbrev Sto := List Cl
abbrev En := List (Option D)
inductive R (α : Type) where
  | ok (a : α) (S : Sto)
  | exc (c : Str) (v : D) (S : Sto)
  | no
def M (α : Type) : Type := Sto → R α
def M.bind {α β : Type} (m : M α) (f : α → M β) : M β := fun S => match m S with
  | .ok a S' => f a S'
  | .exc c v S' => .exc c v S'
  | .no => .no
def M.pure {α : Type} (a : α) : M α := fun S => .ok a S
instance : Monad M where
  pure := M.pure
  bind := M.bind
def stuck {α : Type} : M α := fun _ => .no
def M.of {α : Type} : Option α → M α
  | some a => M.pure a
  | none => stuck
theorem bind_ok {α β : Type} {m : M α} {f : α → M β} {S S' : Sto} {b : β} (h : (m >>= f) S = .ok b S') : ∃ a S1, m S = .ok a S1 ∧ f a S1 = .ok b S' := by
  have h' : M.bind m f S = .ok b S' := h
  unfold M.bind at h'
  cases e : m S with
  | ok a S1 => rw [e] at h'; exact ⟨a, S1, rfl, h'⟩
  | exc c v S1 => rw [e] at h'; cases h'
  | no => rw [e] at h'; cases h'
theorem pure_ok {α : Type} {a b : α} {S S' : Sto} (h : (pure a : M α) S = .ok b S') : a = b ∧ S = S' := by
  have h' : R.ok a S = R.ok b S' := h
  cases h'
  exact ⟨rfl, rfl⟩
theorem of_ok {α : Type} {o : Option α} {b : α} {S S' : Sto} (h : M.of o S = .ok b S') : o = some b ∧ S = S' := by
  cases o with
  | none => cases h
  | some a =>
    have h' : R.ok a S = R.ok b S' := h
    cases h'
    exact ⟨rfl, rfl⟩

/-! ### how data lie in the abstract heap: ρ the cells' addresses, Z lists that are being made -/
/-- a list that nobody changes: tracked, no cell, none that is being made -/
def LstAt (Z ρ : List Addr) (H : Hp) (a : Addr) (vs : List V) : Prop := H a = some (.lst vs) ∧ a ∉ ρ ∧ a ∉ Z
/-- the script: known to its object, or an object of the module -/
def ScrAt (K : PySem.W.Frag) (H : Hp) (a : Addr) (vs : List V) : Prop :=
  (∃ o, H a = some (.frz o (.lst vs))) ∨
    ∃ (o : Obj) (its : Array Value) (n : Nat), K.lookup a = some o ∧ o.cls = .type "list" ∧ o.dict = none ∧ o.data = .seq its n ∧ its.size ≤ sizeLine ∧ Vals vs its.toList
theorem LstAt.seq {K : PySem.W.Frag} {Z ρ : List Addr} {H : Hp} {a : Addr} {vs : List V} (h : LstAt Z ρ H a vs) : SqL K H a vs := .inl (.inl h.1)
theorem ScrAt.seq {K : PySem.W.Frag} {H : Hp} {a : Addr} {vs : List V} (h : ScrAt K H a vs) : SqL K H a vs := by
  rcases h with ⟨o, h⟩ | h
  · exact .inl (.inr ⟨o, h⟩)
  · exact .inr h
mutual
inductive Is (K : PySem.W.Frag) (Z ρ : List Addr) (H : Hp) : V → D → Prop
  | non : Is K Z ρ H .non .non
  | bl (b : Bool) : Is K Z ρ H (.bl b) (.bl b)
  | int (i : Int) : Is K Z ρ H (.int i) (.int i)
  | str (x : Str) : Is K Z ρ H (.str x) (.str x)
  | tup {a : Addr} {vs : List V} {ds : List D} : SqT K H a vs → IsAll K Z ρ H vs ds → Is K Z ρ H (.ref a) (.tup ds)
  | lst {a : Addr} {vs : List V} {ds : List D} : LstAt Z ρ H a vs → IsAll K Z ρ H vs ds → Is K Z ρ H (.ref a) (.lst ds)
  | cell {a : Addr} {k : Nat} : ρ[k]? = some a → Is K Z ρ H (.ref a) (.cell k)
  | ty (n : String) : Is K Z ρ H (.ty n) (.ty n)
  | scr {a : Addr} {vs : List V} {ds : List D} : ScrAt K H a vs → IsAll K Z ρ H vs ds → Is K Z ρ H (.ref a) (.scr ds)
inductive IsAll (K : PySem.W.Frag) (Z ρ : List Addr) (H : Hp) : List V → List D → Prop
  | nil : IsAll K Z ρ H [] []
  | cons {v : V} {vs : List V} {d : D} {ds : List D} : Is K Z ρ H v d → IsAll K Z ρ H vs ds → IsAll K Z ρ H (v :: vs) (d :: ds)
end
def CellIs (K : PySem.W.Frag) (Z ρ : List Addr) (H : Hp) (a : Addr) : Cl → Prop
  | .lst ds => ∃ vs, H a = some (.lst vs) ∧ IsAll K Z ρ H vs ds
structure Ok (K : PySem.W.Frag) (Z ρ : List Addr) (S : Sto) (H : Hp) : Prop where
  len : ρ.length = S.length
  nd : ρ.Nodup
  zd : ∀ a, a ∈ ρ → a ∉ Z
  zt : ∀ a, a ∈ Z → ∃ vs, H a = some (.lst vs)
  cell : ∀ (k : Nat) (a : Addr) (c : Cl), ρ[k]? = some a → S[k]? = some c → CellIs K Z ρ H a c
structure Ext (ρ : List Addr) (H : Hp) (ρ' : List Addr) (H' : Hp) : Prop where
  more : ∃ m, ρ' = ρ ++ m ∧ ∀ a, a ∈ m → H a = none
  keep : ∀ b o, b ∉ ρ → H b = some o → H' b = some o
  there : ∀ b o, H b = some o → ∃ o', H' b = some o'
section
variable {K : PySem.W.Frag} {Z Z' ρ ρ' ρ2 : List Addr} {S S' : Sto} {H H' H2 : Hp} {a b : Addr} {v : V} {vs : List V} {d : D} {ds : List D}
theorem CellIs.lst {c : Cl} (h : CellIs K Z ρ H a c) : ∃ vs, H a = some (.lst vs) := by
  cases c with
  | lst ds => obtain ⟨vs, e, _⟩ := h; exact ⟨vs, e⟩
theorem Ok.at (o : Ok K Z ρ S H) (h : a ∈ ρ) : ∃ (k : Nat) (c : Cl), ρ[k]? = some a ∧ S[k]? = some c ∧ CellIs K Z ρ H a c := by
  obtain ⟨k, hk, e⟩ := List.getElem_of_mem h
  have h1 : ρ[k]? = some a := by rw [List.getElem?_eq_getElem hk, e]
  have h2 : k < S.length := by rw [← o.len]; exact hk
  exact ⟨k, S[k], h1, List.getElem?_eq_getElem h2, o.cell k a _ h1 (List.getElem?_eq_getElem h2)⟩
theorem Ok.lst (o : Ok K Z ρ S H) (h : a ∈ ρ) : ∃ vs, H a = some (.lst vs) := by
  obtain ⟨_, _, _, _, q⟩ := o.at h
  exact q.lst
theorem Ok.nf (o : Ok K Z ρ S H) (h : H a = none) : a ∉ ρ := fun z => by
  obtain ⟨vs, e⟩ := o.lst z
  rw [h] at e; cases e
theorem Ext.refl : Ext ρ H ρ H := ⟨⟨[], by simp, fun _ h => by cases h⟩, fun _ _ _ h => h, fun _ o h => ⟨o, h⟩⟩
theorem Ext.mem (e : Ext ρ H ρ' H') (h : a ∈ ρ) : a ∈ ρ' := by
  obtain ⟨m, q, _⟩ := e.more
  rw [q]; exact List.mem_append_left _ h
theorem Ext.get {k : Nat} (e : Ext ρ H ρ' H') (h : ρ[k]? = some a) : ρ'[k]? = some a := by
  obtain ⟨m, q, _⟩ := e.more
  rw [q, List.getElem?_append_left (List.getElem?_eq_some_iff.mp h).1]
  exact h
theorem Ext.old (e : Ext ρ H ρ' H') {o : HO} (h : H a = some o) (n : a ∉ ρ) : a ∉ ρ' := by
  obtain ⟨m, q, f⟩ := e.more
  rw [q]
  intro z
  rcases List.mem_append.mp z with z | z
  · exact n z
  · rw [f a z] at h; cases h
theorem Ext.trans (e : Ext ρ H ρ' H') (f : Ext ρ' H' ρ2 H2) : Ext ρ H ρ2 H2 := by
  obtain ⟨m, q, g⟩ := e.more
  obtain ⟨m2, q2, g2⟩ := f.more
  refine ⟨⟨m ++ m2, by rw [q2, q, List.append_assoc], fun a h => ?_⟩, fun b o n h => f.keep b o (e.old h n) (e.keep b o n h), fun b o h => ?_⟩
  · rcases List.mem_append.mp h with h | h
    · exact g a h
    · cases q3 : H a with
      | none => rfl
      | some o =>
        obtain ⟨o', z⟩ := e.there a o q3
        rw [g2 a h] at z; cases z
  · obtain ⟨o', z⟩ := e.there b o h
    exact f.there b o' z
/-- a list, a tuple that stands outside the cells stays -/
theorem keepL (e : Ext ρ H ρ' H') (h : LstAt Z ρ H a vs) : LstAt Z ρ' H' a vs := ⟨e.keep a _ h.2.1 h.1, e.old h.1 h.2.1, h.2.2⟩
theorem keepS (k : Ok K Z ρ S H) (e : Ext ρ H ρ' H') (h : ScrAt K H a vs) : ScrAt K H' a vs := by
  rcases h with ⟨o, h⟩ | h
  · refine .inl ⟨o, e.keep a _ (fun z => ?_) h⟩
    obtain ⟨vs, q⟩ := k.lst z
    rw [h] at q; cases q
  · exact .inr h
theorem keepT (k : Ok K Z ρ S H) (e : Ext ρ H ρ' H') (h : SqT K H a vs) : SqT K H' a vs := by
  rcases h with (h | ⟨o, h⟩) | h
  · refine .inl (.inl (e.keep a _ (fun z => ?_) h))
    obtain ⟨vs, q⟩ := k.lst z
    rw [h] at q; cases q
  · refine .inl (.inr ⟨o, e.keep a _ (fun z => ?_) h⟩)
    obtain ⟨vs, q⟩ := k.lst z
    rw [h] at q; cases q
  · exact .inr h
mutual
theorem Is.mono (k : Ok K Z ρ S H) (e : Ext ρ H ρ' H') : ∀ {v : V} {d : D}, Is K Z ρ H v d → Is K Z ρ' H' v d
  | _, _, .non => .non
  | _, _, .bl b => .bl b
  | _, _, .int i => .int i
  | _, _, .str x => .str x
  | _, _, .tup h r => .tup (keepT k e h) (IsAll.mono k e r)
  | _, _, .lst h r => .lst (keepL e h) (IsAll.mono k e r)
  | _, _, .cell h => .cell (e.get h)
  | _, _, .ty n => .ty n
  | _, _, .scr h r => .scr (keepS k e h) (IsAll.mono k e r)
theorem IsAll.mono (k : Ok K Z ρ S H) (e : Ext ρ H ρ' H') : ∀ {vs : List V} {ds : List D}, IsAll K Z ρ H vs ds → IsAll K Z ρ' H' vs ds
  | _, _, .nil => .nil
  | _, _, .cons h r => .cons (Is.mono k e h) (IsAll.mono k e r)
end
theorem IsAll.length : ∀ {vs : List V} {ds : List D}, IsAll K Z ρ H vs ds → vs.length = ds.length
  | _, _, .nil => rfl
  | _, _, .cons _ r => congrArg (· + 1) (IsAll.length r)
theorem IsAll.append : ∀ {vs ws : List V} {ds es : List D}, IsAll K Z ρ H vs ds → IsAll K Z ρ H ws es → IsAll K Z ρ H (vs ++ ws) (ds ++ es)
  | _, _, _, _, .nil, s => s
  | _, _, _, _, .cons h r, s => .cons h (IsAll.append r s)
theorem IsAll.get : ∀ {vs : List V} {ds : List D} {i : Nat} {d : D}, IsAll K Z ρ H vs ds → ds[i]? = some d → ∃ v, vs[i]? = some v ∧ Is K Z ρ H v d
  | _, _, i, d, .nil, e => by simp at e
  | _, _, 0, d, .cons h _, e => by simp at e; subst e; exact ⟨_, rfl, h⟩
  | _, _, i + 1, d, .cons _ r, e => by
    obtain ⟨v, a, b⟩ := IsAll.get (i := i) r (by simpa using e)
    exact ⟨v, by simpa using a, b⟩
theorem IsAll.getV : ∀ {vs : List V} {ds : List D} {i : Nat} {v : V}, IsAll K Z ρ H vs ds → vs[i]? = some v → ∃ d, ds[i]? = some d ∧ Is K Z ρ H v d
  | _, _, i, d, .nil, e => by simp at e
  | _, _, 0, d, .cons h _, e => by simp at e; subst e; exact ⟨_, rfl, h⟩
  | _, _, i + 1, d, .cons _ r, e => by
    obtain ⟨v, a, b⟩ := IsAll.getV (i := i) r (by simpa using e)
    exact ⟨v, by simpa using a, b⟩
theorem IsAll.drop : ∀ {vs : List V} {ds : List D} (n : Nat), IsAll K Z ρ H vs ds → IsAll K Z ρ H (vs.drop n) (ds.drop n)
  | _, _, 0, r => r
  | _, _, n + 1, .nil => .nil
  | _, _, n + 1, .cons _ r => IsAll.drop n r
theorem IsAll.take : ∀ {vs : List V} {ds : List D} (n : Nat), IsAll K Z ρ H vs ds → IsAll K Z ρ H (vs.take n) (ds.take n)
  | _, _, 0, r => .nil
  | _, _, n + 1, .nil => .nil
  | _, _, n + 1, .cons h r => .cons h (IsAll.take n r)
theorem IsAll.reverse : ∀ {vs : List V} {ds : List D}, IsAll K Z ρ H vs ds → IsAll K Z ρ H vs.reverse ds.reverse
  | _, _, .nil => .nil
  | _, _, .cons h r => by
    rw [List.reverse_cons, List.reverse_cons]
    exact (IsAll.reverse r).append (.cons h .nil)
theorem IsAll.set {v : V} {d : D} (h : Is K Z ρ H v d) : ∀ {vs : List V} {ds : List D} (i : Nat), IsAll K Z ρ H vs ds → IsAll K Z ρ H (vs.set i v) (ds.set i d)
  | _, _, _, .nil => .nil
  | _, _, 0, .cons _ r => .cons h r
  | _, _, n + 1, .cons q r => .cons q (IsAll.set h n r)
theorem IsAll.ints : ∀ (ns : List Int), IsAll K Z ρ H (ns.map V.int) (ns.map D.int)
  | [] => .nil
  | n :: ns => .cons (.int n) (IsAll.ints ns)

/-! ### steps of the heap -/
/-- the cells stand as they stood -/
theorem Ok.step (k : Ok K Z ρ S H) (e : Ext ρ H ρ H') (c : ∀ a, a ∈ ρ → H' a = H a) (z : ∀ a, a ∈ Z → H' a = H a) : Ok K Z ρ S H' where
  len := k.len
  nd := k.nd
  zd := k.zd
  zt := fun a h => by rw [z a h]; exact k.zt a h
  cell := fun i a q h1 h2 => by
    have w := k.cell i a q h1 h2
    cases q with
    | lst ds =>
      obtain ⟨vs, e1, r⟩ := w
      exact ⟨vs, by rw [c a (List.mem_of_getElem? h1)]; exact e1, r.mono k e⟩
theorem ext_new {p : Addr} {o : HO} (hp : H p = none) : Ext ρ H ρ (upd H p o) :=
  ⟨⟨[], by simp, fun _ h => by cases h⟩, fun b u _ h => by rw [upd_ne (ne_of_none h hp)]; exact h, fun b u h => ⟨u, by rw [upd_ne (ne_of_none h hp)]; exact h⟩⟩
theorem Ok.new (k : Ok K Z ρ S H) {p : Addr} {o : HO} (hp : H p = none) : Ok K Z ρ S (upd H p o) :=
  k.step (ext_new hp) (fun a h => by obtain ⟨vs, e⟩ := k.lst h; rw [upd_ne (ne_of_none e hp)]) fun a h => by obtain ⟨vs, e⟩ := k.zt a h; rw [upd_ne (ne_of_none e hp)]
theorem Ok.nz (k : Ok K Z ρ S H) {p : Addr} (hp : H p = none) : p ∉ Z := fun z => by
  obtain ⟨vs, e⟩ := k.zt p z
  rw [hp] at e; cases e
/-- a new tuple -/
theorem new_tup (k : Ok K Z ρ S H) {p : Addr} (hp : H p = none) (r : IsAll K Z ρ H vs ds) : Is K Z ρ (upd H p (.tup vs)) (.ref p) (.tup ds) :=
  .tup (SqT.of upd_same) (r.mono k (ext_new hp))
/-- a new list that nobody changes -/
theorem new_lst (k : Ok K Z ρ S H) {p : Addr} (hp : H p = none) (r : IsAll K Z ρ H vs ds) : Is K Z ρ (upd H p (.lst vs)) (.ref p) (.lst ds) :=
  .lst ⟨upd_same, k.nf hp, k.nz hp⟩ (r.mono k (ext_new hp))
/-- a tracked list becomes a cell -/
theorem Ok.cell_of (k : Ok K Z ρ S H) {p : Addr} (hp : H p = none) (r : IsAll K Z ρ H vs ds) :
    Ok K Z (ρ ++ [p]) (S ++ [.lst ds]) (upd H p (.lst vs)) ∧ Ext ρ H (ρ ++ [p]) (upd H p (.lst vs)) ∧ Is K Z (ρ ++ [p]) (upd H p (.lst vs)) (.ref p) (.cell S.length) := by
  have e : Ext ρ H (ρ ++ [p]) (upd H p (.lst vs)) := ⟨⟨[p], rfl, fun a h => by rw [List.mem_singleton.mp h]; exact hp⟩, (ext_new (ρ := ρ) hp).keep, (ext_new (ρ := ρ) hp).there⟩
  refine ⟨⟨by rw [List.length_append, List.length_append, k.len]; rfl, ?_, fun a h => ?_, fun a h => ?_, fun i a c h1 h2 => ?_⟩, e, .cell (by rw [← k.len]; simp)⟩
  · rw [List.nodup_append]
    exact ⟨k.nd, by simp, fun a ha b hb z => k.nf hp (by rw [List.mem_singleton.mp hb] at z; rw [← z]; exact ha)⟩
  · rcases List.mem_append.mp h with h | h
    · exact k.zd a h
    · rw [List.mem_singleton.mp h]; exact k.nz hp
  · obtain ⟨vs, q⟩ := k.zt a h
    exact ⟨vs, by rw [upd_ne (ne_of_none q hp)]; exact q⟩
  · by_cases hi : i < ρ.length
    · rw [List.getElem?_append_left hi] at h1
      rw [List.getElem?_append_left (by rw [← k.len]; exact hi)] at h2
      have w := k.cell i a c h1 h2
      cases c with
      | lst es =>
        obtain ⟨ws, e1, r1⟩ := w
        exact ⟨ws, by rw [upd_ne (ne_of_none e1 hp)]; exact e1, r1.mono k e⟩
    · have hi2 : i = ρ.length := by
        have := (List.getElem?_eq_some_iff.mp h1).1
        rw [List.length_append] at this
        simp at this; omega
      subst hi2
      have a1 : p = a := by simpa using h1
      have a2 : Cl.lst ds = c := by rw [k.len] at h2; simpa using h2
      subst a1 a2
      exact ⟨vs, upd_same, r.mono k e⟩
/-- a cell is written -/
theorem Ok.write (k : Ok K Z ρ S H) {i : Nat} (h : ρ[i]? = some a) (r : IsAll K Z ρ H vs ds) :
    Ok K Z ρ (S.set i (.lst ds)) (upd H a (.lst vs)) ∧ Ext ρ H ρ (upd H a (.lst vs)) := by
  have ha : a ∈ ρ := List.mem_of_getElem? h
  have e : Ext ρ H ρ (upd H a (.lst vs)) := ⟨⟨[], by simp, fun _ h => by cases h⟩, fun b o n q => by rw [upd_ne (fun z => n (by rw [z]; exact ha))]; exact q, fun b o q => by
    by_cases z : b = a
    · exact ⟨_, by rw [z]; exact upd_same⟩
    · exact ⟨o, by rw [upd_ne z]; exact q⟩⟩
  refine ⟨⟨by rw [List.length_set]; exact k.len, k.nd, k.zd, fun b hb => ?_, fun j b c h1 h2 => ?_⟩, e⟩
  · obtain ⟨ws, q⟩ := k.zt b hb
    exact ⟨ws, by rw [upd_ne (fun z => k.zd a ha (by rw [← z]; exact hb))]; exact q⟩
  · by_cases hj : j = i
    · subst hj
      rw [h] at h1; cases h1
      have hl : j < S.length := by rw [← k.len]; exact (List.getElem?_eq_some_iff.mp h).1
      rw [List.getElem?_set_self hl] at h2
      cases h2
      exact ⟨vs, upd_same, r.mono k e⟩
    · rw [List.getElem?_set_ne (Ne.symm hj)] at h2
      have w := k.cell j b c h1 h2
      have hne : b ≠ a := fun z => hj ((List.getElem?_inj (List.getElem?_eq_some_iff.mp h1).1 k.nd).mp (by rw [h1, h, z]))
      cases c with
      | lst es =>
        obtain ⟨ws, e1, r1⟩ := w
        exact ⟨ws, by rw [upd_ne hne]; exact e1, r1.mono k e⟩
end
end Pv

/-! Pv2: readings by data: what an expression, a test, an argument list, a statement gives, as a function on data and the store. -/
namespace Pv
open PySem PySem.Spec PyProof.Rows L2

/-! ### what is wanted of an outcome -/
def MP {α : Type} (r : R α) (P : α → Sto → Prop) (E : Str → D → Sto → Prop) : Prop := match r with
  | .ok a S => P a S
  | .exc c v S => E c v S
  | .no => False
theorem MP.bind {α β : Type} {m : M α} {f : α → M β} {S : Sto} {P : β → Sto → Prop} {E : Str → D → Sto → Prop} (h : MP ((m >>= f) S) P E) : MP (m S) (fun a S1 => MP (f a S1) P E) E := by
  have h' : MP (M.bind m f S) P E := h
  unfold M.bind at h'
  cases e : m S with
  | ok a S1 => rw [e] at h'; exact h'
  | exc c v S1 => rw [e] at h'; exact h'
  | no => rw [e] at h'; exact h'
theorem MP.pure {α : Type} {a : α} {S : Sto} {P : α → Sto → Prop} {E : Str → D → Sto → Prop} (h : MP ((Pure.pure a : M α) S) P E) : P a S := h
theorem MP.of {α : Type} {o : Option α} {S : Sto} {P : α → Sto → Prop} {E : Str → D → Sto → Prop} (h : MP (M.of o S) P E) : ∃ a, o = some a ∧ P a S := by
  cases o with
  | none => exact h.elim
  | some a => exact ⟨a, rfl, h⟩
theorem MP.imp {α : Type} {r : R α} {P P' : α → Sto → Prop} {E E' : Str → D → Sto → Prop} (h : MP r P E) (hp : ∀ a S, P a S → P' a S) (he : ∀ c v S, E c v S → E' c v S) : MP r P' E' := by
  cases r with
  | ok a S => exact hp a S h
  | exc c v S => exact he c v S h
  | no => exact h

/-! ### slots -/
structure EnvIs (K : PySem.W.Frag) (Z ρ : List Addr) (H : Hp) (σ : L2.St) (ds : En) : Prop where
  len : ds.length = σ.length
  get : ∀ (i : Nat) (d : D), ds[i]? = some (some d) → ∃ v, σ[i]? = some (some v) ∧ Is K Z ρ H v d
section
variable {K : PySem.W.Frag} {Z Z' ρ ρ' ρ2 : List Addr} {S S' : Sto} {H H' H2 : Hp} {σ : L2.St} {ds : En}
theorem EnvIs.mono (n : EnvIs K Z ρ H σ ds) (k : Ok K Z ρ S H) (e : Ext ρ H ρ' H') : EnvIs K Z ρ' H' σ ds := ⟨n.len, fun i d h => let ⟨v, a, b⟩ := n.get i d h; ⟨v, a, b.mono k e⟩⟩
theorem EnvIs.set (n : EnvIs K Z ρ H σ ds) {v : V} {d : D} (i : Nat) (h : Is K Z ρ H v d) : EnvIs K Z ρ H (σ.set i (some v)) (ds.set i (some d)) := by
  refine ⟨by rw [List.length_set, List.length_set]; exact n.len, fun j x e => ?_⟩
  by_cases hj : i = j
  · subst hj
    by_cases hl : i < ds.length
    · rw [List.getElem?_set_self hl] at e
      cases e
      exact ⟨v, by rw [List.getElem?_set_self (by rw [← n.len]; exact hl)], h⟩
    · rw [List.getElem?_eq_none (by rw [List.length_set]; omega)] at e; cases e
  · rw [List.getElem?_set_ne hj] at e
    rw [List.getElem?_set_ne hj]
    exact n.get j x e
end

/-! ### the wish about exceptions: closed under growth -/
structure Wsh (K : PySem.W.Frag) where
  P : List Addr → List Addr → Hp → L2.St → En → Str → D → Sto → Prop
  up : ∀ {Z ρ H σ ds c v S S' ρ' H'}, Ok K Z ρ S' H → Ext ρ H ρ' H' → P Z ρ H σ ds c v S → P Z ρ' H' σ ds c v S
def W0 (K : PySem.W.Frag) : Wsh K := ⟨fun _ _ _ _ _ _ _ _ => False, fun _ _ h => h⟩
abbrev EM := En → M D
abbrev TM := En → M Bool
abbrev AM := En → M (List D)
section
variable (K : PySem.W.Frag) (W : Wsh K)
/-- the end of a value -/
def Pt (Z ρ : List Addr) (H : Hp) (Q : VK) (d : D) (S : Sto) : Prop := ∀ ρ' H' v, Ext ρ H ρ' H' → Ok K Z ρ' S H' → Is K Z ρ' H' v d → Q v H'
def PtB (Z ρ : List Addr) (H : Hp) (Q : Bool → Hp → Prop) (b : Bool) (S : Sto) : Prop := ∀ ρ' H', Ext ρ H ρ' H' → Ok K Z ρ' S H' → Q b H'
def PtA (Z ρ : List Addr) (H : Hp) (Q : List V → Hp → Prop) (ds : List D) (S : Sto) : Prop := ∀ ρ' H' vs, Ext ρ H ρ' H' → Ok K Z ρ' S H' → IsAll K Z ρ' H' vs ds → Q vs H'
/-- the start -/
structure At (Z ρ : List Addr) (S : Sto) (H : Hp) (σ : L2.St) (ds : En) : Prop where
  ok : Ok K Z ρ S H
  env : EnvIs K Z ρ H σ ds
def tE (m : EM) : TE := fun σ H Q => ∃ Z ρ S ds, At K Z ρ S H σ ds ∧ MP (m ds S) (Pt K Z ρ H Q) (W.P Z ρ H σ ds)
def tT (m : TM) : TT := fun σ H Q => ∃ Z ρ S ds, At K Z ρ S H σ ds ∧ MP (m ds S) (PtB K Z ρ H Q) (W.P Z ρ H σ ds)
def tA (m : AM) : TA := fun σ H Q => ∃ Z ρ S ds, At K Z ρ S H σ ds ∧ MP (m ds S) (PtA K Z ρ H Q) (W.P Z ρ H σ ds)
end
section
variable {K : PySem.W.Frag} {W : Wsh K} {Z ρ ρ' : List Addr} {S S' S1 : Sto} {H H' : Hp} {σ : L2.St} {ds : En} {Q Q' : VK}
theorem At.up (t : At K Z ρ S H σ ds) (e : Ext ρ H ρ' H') (k : Ok K Z ρ' S' H') : At K Z ρ' S' H' σ ds := ⟨k, t.env.mono t.ok e⟩
/-- from here on, the end seen from further on -/
theorem Pt.up (e : Ext ρ H ρ' H') {d : D} (h : Pt K Z ρ H Q d S) : Pt K Z ρ' H' Q d S := fun ρ2 H2 v e2 k i => h ρ2 H2 v (e.trans e2) k i
theorem PtB.up (e : Ext ρ H ρ' H') {Q : Bool → Hp → Prop} {b : Bool} (h : PtB K Z ρ H Q b S) : PtB K Z ρ' H' Q b S := fun ρ2 H2 e2 k => h ρ2 H2 (e.trans e2) k
theorem PtA.up (e : Ext ρ H ρ' H') {Q : List V → Hp → Prop} {d : List D} (h : PtA K Z ρ H Q d S) : PtA K Z ρ' H' Q d S := fun ρ2 H2 v e2 k i => h ρ2 H2 v (e.trans e2) k i
theorem Pt.here {d : D} {v : V} (h : Pt K Z ρ H Q d S) (k : Ok K Z ρ S H) (i : Is K Z ρ H v d) : Q v H := h ρ H v Ext.refl k i
end

/-! ### rules: the data reading stands over HandS' reading -/
def PEm (X : Cx) (W : Wsh X.K) (e : Expr) (m : EM) : Prop := PE X e (tE X.K W m)
def PTm (X : Cx) (W : Wsh X.K) (e : Expr) (m : TM) : Prop := PT X e (tT X.K W m)
def PAm (X : Cx) (W : Wsh X.K) (es : List Expr) (m : AM) : Prop := PA X es (tA X.K W m)
theorem PE.imp {X : Cx} {e : Expr} {t t' : TE} (h : PE X e t) (i : ∀ σ H Q, t' σ H Q → t σ H Q) : PE X e t' := ⟨fun pins s σ H Q I q => h.run pins s σ H Q I (i σ H Q q)⟩
theorem PT.imp {X : Cx} {e : Expr} {t t' : TT} (h : PT X e t) (i : ∀ σ H Q, t' σ H Q → t σ H Q) : PT X e t' := ⟨fun pins s σ H Q I q => h.run pins s σ H Q I (i σ H Q q)⟩
theorem PA.imp {X : Cx} {es : List Expr} {t t' : TA} (h : PA X es t) (i : ∀ σ H Q, t' σ H Q → t σ H Q) : PA X es t' := ⟨fun pos pins s σ H Q I q => h.run pos pins s σ H Q I (i σ H Q q)⟩
section
variable {X : Cx} {W : Wsh X.K} {e a b : Expr} {es : List Expr} {m ma mb : EM} {pos : Pos}
/-- a constant -/
theorem em_const {v : V} {d : D} (hv : PE X e (tC v)) (hd : ∀ Z ρ H, Is X.K Z ρ H v d) : PEm X W e (fun _ => pure d) :=
  PE.imp hv fun σ H Q ⟨Z, ρ, S, ds, t, h⟩ => (MP.pure h : Pt _ _ _ _ _ _ _).here t.ok (hd Z ρ H)
/-- a slot -/
theorem em_var {i : Nat} (hv : PE X e (tVar i)) : PEm X W e (fun ds => M.of (ds[i]?.join)) :=
  PE.imp hv fun σ H Q ⟨Z, ρ, S, ds, t, h⟩ => by
    obtain ⟨d, e1, q⟩ := MP.of h
    have e2 : ds[i]? = some (some d) := by
      cases q : ds[i]? with
      | none => rw [q] at e1; cases e1
      | some o => rw [q] at e1; exact congrArg some e1
    obtain ⟨v, h1, h2⟩ := t.env.get i d e2
    exact ⟨v, h1, q.here t.ok h2⟩
/-- one step behind another -/
theorem tE_bind {σ : L2.St} {H : Hp} {ds : En} {Z ρ : List Addr} {S : Sto} {α : Type} {g : D → M α} {P : α → Sto → Prop} (t : At X.K Z ρ S H σ ds) (h : MP ((ma ds >>= g) S) P (W.P Z ρ H σ ds))
    {R : VK} (k : ∀ d S1 ρ1 H1 v, Ext ρ H ρ1 H1 → At X.K Z ρ1 S1 H1 σ ds → Is X.K Z ρ1 H1 v d → MP (g d S1) P (W.P Z ρ1 H1 σ ds) → R v H1) : tE X.K W ma σ H R :=
  ⟨Z, ρ, S, ds, t, (MP.bind h).imp (fun d S1 q ρ1 H1 v e1 k1 i => k d S1 ρ1 H1 v e1 (t.up e1 k1) i (q.imp (fun _ _ z => z) fun _ _ _ z => W.up t.ok e1 z)) fun _ _ _ z => z⟩
/-- what does not raise: data and the store in, the same out -/
def M.lift {α : Type} (f : Sto → Option (α × Sto)) : M α := fun S => match f S with
  | some (a, S') => .ok a S'
  | none => .no
theorem MP.lift {α : Type} {f : Sto → Option (α × Sto)} {S : Sto} {P : α → Sto → Prop} {E : Str → D → Sto → Prop} (h : MP (M.lift f S) P E) : ∃ a S', f S = some (a, S') ∧ P a S' := by
  unfold M.lift at h
  cases e : f S with
  | none => rw [e] at h; exact h.elim
  | some p =>
    obtain ⟨a, S'⟩ := p
    rw [e] at h
    exact ⟨a, S', rfl, h⟩
abbrev F1 := D → Sto → Option (D × Sto)
abbrev F2 := D → D → Sto → Option (D × Sto)
abbrev FA := List D → Sto → Option (D × Sto)
/-- what an operation on two values must do -/
def OpD (K : PySem.W.Frag) (r : R2) (f : F2) : Prop := ∀ (Z ρ : List Addr) (S S' : Sto) (H : Hp) (x y : V) (dx dy d : D) (Q : VK), Ok K Z ρ S H → Is K Z ρ H x dx → Is K Z ρ H y dy →
  f dx dy S = some (d, S') → Pt K Z ρ H Q d S' → r x y H Q
def UnD (K : PySem.W.Frag) (r : V → Hp → VK → Prop) (f : F1) : Prop := ∀ (Z ρ : List Addr) (S S' : Sto) (H : Hp) (x : V) (dx d : D) (Q : VK), Ok K Z ρ S H → Is K Z ρ H x dx →
  f dx S = some (d, S') → Pt K Z ρ H Q d S' → r x H Q
def CallD (K : PySem.W.Frag) (r : List V → Hp → VK → Prop) (f : FA) : Prop := ∀ (Z ρ : List Addr) (S S' : Sto) (H : Hp) (xs : List V) (ds : List D) (d : D) (Q : VK), Ok K Z ρ S H → IsAll K Z ρ H xs ds →
  f ds S = some (d, S') → Pt K Z ρ H Q d S' → r xs H Q
/-- a op b -/
def mBin (f : F2) (ma mb : EM) : EM := fun ds => ma ds >>= fun x => mb ds >>= fun y => M.lift (f x y)
theorem tOp_of {r : R2} {f : F2} (hf : OpD X.K r f) {σ : L2.St} {H : Hp} {Q : VK} (h : tE X.K W (mBin f ma mb) σ H Q) : tOp r (tE X.K W ma) (tE X.K W mb) σ H Q := by
  obtain ⟨Z, ρ, S, ds, t, h⟩ := h
  refine tE_bind t h fun d1 S1 ρ1 H1 v1 e1 t1 i1 q1 => ?_
  refine tE_bind t1 q1 fun d2 S2 ρ2 H2 v2 e2 t2 i2 q2 => ?_
  obtain ⟨d, S3, e3, q3⟩ := MP.lift q2
  exact hf Z ρ2 S2 S3 H2 v1 v2 d1 d2 d Q t2.ok (i1.mono t1.ok e2) i2 e3 (q3.up (e1.trans e2))
theorem em_op {op : Operator} {r : R2} {f : F2} (ho : OpR X (binaryOp op) r) (hf : OpD X.K r f) (ha : PEm X W a ma) (hb : PEm X W b mb) : PEm X W (.BinOp a op b pos) (mBin f ma mb) :=
  PE.imp (pe_op ho ha hb) fun _ _ _ h => tOp_of hf h
theorem em_cmp {op : CmpOp} {r : R2} {f : F2} (ho : OpR X (compareOp op) r) (hf : OpD X.K r f) (ha : PEm X W a ma) (hb : PEm X W b mb) (hm : behindInMarks op b = false) : PEm X W (.Compare a [op] [b] pos) (mBin f ma mb) :=
  PE.imp (pe_cmpR ho ha hb hm) fun _ _ _ h => tOp_of hf h
def mUn (f : F1) (ma : EM) : EM := fun ds => ma ds >>= fun x => M.lift (f x)
theorem tUn_of {r : V → Hp → VK → Prop} {f : F1} (hf : UnD X.K r f) {σ : L2.St} {H : Hp} {Q : VK} (h : tE X.K W (mUn f ma) σ H Q) : tUn r (tE X.K W ma) σ H Q := by
  obtain ⟨Z, ρ, S, ds, t, h⟩ := h
  refine tE_bind t h fun d1 S1 ρ1 H1 v1 e1 t1 i1 q1 => ?_
  obtain ⟨d, S3, e3, q3⟩ := MP.lift q1
  exact hf Z ρ1 S1 S3 H1 v1 d1 d Q t1.ok i1 e3 (q3.up e1)
theorem em_un {op : UnaryOp} {r : V → Hp → VK → Prop} {f : F1} (ho : UnR X (unaryOp op) r) (hf : UnD X.K r f) (ha : PEm X W a ma) : PEm X W (.UnaryOp op a pos) (mUn f ma) :=
  PE.imp (pe_un ho ha) fun _ _ _ h => tUn_of hf h
end
/-! ### tests, bools -/
section
variable {X : Cx} {W : Wsh X.K} {e a b c : Expr} {es rest : List Expr} {m ma mb : EM} {mt mu : TM} {pos : Pos}
theorem tT_bind {σ : L2.St} {H : Hp} {ds : En} {Z ρ : List Addr} {S : Sto} {α : Type} {g : Bool → M α} {P : α → Sto → Prop} (t : At X.K Z ρ S H σ ds) (h : MP ((mt ds >>= g) S) P (W.P Z ρ H σ ds))
    {R : Bool → Hp → Prop} (k : ∀ d S1 ρ1 H1, Ext ρ H ρ1 H1 → At X.K Z ρ1 S1 H1 σ ds → MP (g d S1) P (W.P Z ρ1 H1 σ ds) → R d H1) : tT X.K W mt σ H R :=
  ⟨Z, ρ, S, ds, t, (MP.bind h).imp (fun d S1 q ρ1 H1 e1 k1 => k d S1 ρ1 H1 e1 (t.up e1 k1) (q.imp (fun _ _ z => z) fun _ _ _ z => W.up t.ok e1 z)) fun _ _ _ z => z⟩
theorem tE_to {ma' : EM} {σ : L2.St} {H : Hp} {ds : En} {Z ρ ρ1 : List Addr} {S1 : Sto} {H1 : Hp} {Q : VK} (t1 : At X.K Z ρ1 S1 H1 σ ds) (e1 : Ext ρ H ρ1 H1) (h : MP (ma' ds S1) (Pt X.K Z ρ H Q) (W.P Z ρ1 H1 σ ds)) : tE X.K W ma' σ H1 Q :=
  ⟨Z, ρ1, S1, ds, t1, h.imp (fun _ _ q => q.up e1) fun _ _ _ z => z⟩
theorem tT_to {ma' : TM} {σ : L2.St} {H : Hp} {ds : En} {Z ρ ρ1 : List Addr} {S1 : Sto} {H1 : Hp} {Q : Bool → Hp → Prop} (t1 : At X.K Z ρ1 S1 H1 σ ds) (e1 : Ext ρ H ρ1 H1) (h : MP (ma' ds S1) (PtB X.K Z ρ H Q) (W.P Z ρ1 H1 σ ds)) : tT X.K W ma' σ H1 Q :=
  ⟨Z, ρ1, S1, ds, t1, h.imp (fun _ _ q => q.up e1) fun _ _ _ z => z⟩
def PWm (X : Cx) (W : Wsh X.K) (e : Expr) (m : TM) : Prop := PW X e (tT X.K W m)
theorem PW.imp {e : Expr} {t t' : TT} (h : PW X e t) (i : ∀ σ H Q, t' σ H Q → t σ H Q) : PW X e t' := ⟨fun wh pins s σ H Q I q => h.run wh pins s σ H Q I (i σ H Q q)⟩
def mAnd (mt mu : TM) : TM := fun ds => mt ds >>= fun c => if c = true then mu ds else pure false
def mOr (mt mu : TM) : TM := fun ds => mt ds >>= fun c => if c = true then pure true else mu ds
def mNot (mt : TM) : TM := fun ds => mt ds >>= fun c => pure (!c)
theorem wm_and1 (h : PTm X W a mt) : PWm X W (.BoolOp .And [a] pos) mt := pw_and1 h
theorem wm_or1 (h : PTm X W a mt) : PWm X W (.BoolOp .Or [a] pos) mt := pw_or1 h
theorem wm_and (ha : PTm X W a mt) (hb : PWm X W (.BoolOp .And (b :: rest) pos) mu) : PWm X W (.BoolOp .And (a :: b :: rest) pos) (mAnd mt mu) :=
  PW.imp (pw_and ha hb) fun σ H Q ⟨Z, ρ, S, ds, t, h⟩ => tT_bind t h fun d S1 ρ1 H1 e1 t1 q => by
    cases d with
    | true => rw [if_pos rfl] at q ⊢; exact tT_to t1 e1 q
    | false => rw [if_neg Bool.false_ne_true] at q ⊢; exact (MP.pure q : PtB _ _ _ _ _ _ _) ρ1 H1 e1 t1.ok
theorem wm_or (ha : PTm X W a mt) (hb : PWm X W (.BoolOp .Or (b :: rest) pos) mu) : PWm X W (.BoolOp .Or (a :: b :: rest) pos) (mOr mt mu) :=
  PW.imp (pw_or ha hb) fun σ H Q ⟨Z, ρ, S, ds, t, h⟩ => tT_bind t h fun d S1 ρ1 H1 e1 t1 q => by
    cases d with
    | true => rw [if_pos rfl] at q ⊢; exact (MP.pure q : PtB _ _ _ _ _ _ _) ρ1 H1 e1 t1.ok
    | false => rw [if_neg Bool.false_ne_true] at q ⊢; exact tT_to t1 e1 q
theorem tm_w (h : PWm X W e mt) : PTm X W e mt := h.pt
theorem tm_not (ha : PTm X W a mt) : PTm X W (.UnaryOp .Not a pos) (mNot mt) :=
  PT.imp (pt_not ha) fun σ H Q ⟨Z, ρ, S, ds, t, h⟩ => tT_bind t h fun d S1 ρ1 H1 e1 t1 q => (MP.pure q : PtB _ _ _ _ _ _ _) ρ1 H1 e1 t1.ok
/-- a bool's own value as a test -/
def mBool (ma : EM) : TM := fun ds => ma ds >>= fun x => match x with
  | .bl c => pure c
  | _ => stuck
theorem tB_of {σ : L2.St} {H : Hp} {Q : Bool → Hp → Prop} (h : tT X.K W (mBool ma) σ H Q) : tE X.K W ma σ H fun x H1 => ∃ c, x = .bl c ∧ Q c H1 := by
  obtain ⟨Z, ρ, S, ds, t, h⟩ := h
  refine tE_bind t h fun d S1 ρ1 H1 v e1 t1 i q => ?_
  cases i with
  | bl b => exact ⟨b, rfl, (MP.pure q : PtB _ _ _ _ _ _ _) ρ1 H1 e1 t1.ok⟩
  | _ => exact q.elim
theorem tm_cmp {op : CmpOp} {r : R2} {f : F2} (ho : OpR X (compareOp op) r) (hf : OpD X.K r f) (ha : PEm X W a ma) (hb : PEm X W b mb) (hm : behindInMarks op b = false) : PTm X W (.Compare a [op] [b] pos) (mBool (mBin f ma mb)) :=
  PT.imp (pt_cmpR ho ha hb hm) fun _ _ _ h => tOp_of hf (by
    obtain ⟨Z, ρ, S, ds, t, h⟩ := h
    refine ⟨Z, ρ, S, ds, t, (MP.bind h).imp (fun d S1 q ρ1 H1 v e1 k i => ?_) fun _ _ _ z => z⟩
    cases i with
    | bl b => exact ⟨b, rfl, (MP.pure q : PtB _ _ _ _ _ _ _) ρ1 H1 e1 k⟩
    | _ => exact q.elim)
/-- an expression whose value is a bool, as a test -/
theorem tm_val (ha : PEm X W e ma) (he : ∀ whole, isTrue e X.env whole = (do let v ← whole; standAt e.pos; holding [v] (truthy v)) := by intro _; rfl) : PTm X W e (mBool ma) :=
  PT.imp (pt_val ha he) fun _ _ _ h => tB_of h
/-- .. as values -/
def mAndV (ma mb : EM) : EM := fun ds => mBool ma ds >>= fun c => if c = true then mb ds else pure (.bl false)
def mOrV (ma mb : EM) : EM := fun ds => mBool ma ds >>= fun c => if c = true then pure (.bl true) else mb ds
def mNotV (ma : EM) : EM := fun ds => mBool ma ds >>= fun c => pure (.bl (!c))
theorem tE_bindB {σ : L2.St} {H : Hp} {ds : En} {Z ρ : List Addr} {S : Sto} {α : Type} {g : Bool → M α} {P : α → Sto → Prop} (t : At X.K Z ρ S H σ ds) (h : MP ((mBool ma ds >>= g) S) P (W.P Z ρ H σ ds))
    {R : VK} (k : ∀ d S1 ρ1 H1, Ext ρ H ρ1 H1 → At X.K Z ρ1 S1 H1 σ ds → MP (g d S1) P (W.P Z ρ1 H1 σ ds) → R (.bl d) H1) : tE X.K W ma σ H R := by
  have h1 := MP.bind (MP.bind h)
  refine ⟨Z, ρ, S, ds, t, h1.imp (fun d S1 q ρ1 H1 v e1 k1 i => ?_) fun _ _ _ z => z⟩
  cases i with
  | bl b => exact k b S1 ρ1 H1 e1 (t.up e1 k1) ((MP.pure q : MP (g b S1) P (W.P Z ρ H σ ds)).imp (fun _ _ z => z) fun _ _ _ z => W.up t.ok e1 z)
  | _ => exact q.elim
theorem em_one {op} (h : PEm X W a ma) : PEm X W (.BoolOp op [a] pos) ma := pe_one h
theorem em_and (ha : PEm X W a ma) (hb : PEm X W (.BoolOp .And (b :: rest) pos) mb) : PEm X W (.BoolOp .And (a :: b :: rest) pos) (mAndV ma mb) :=
  PE.imp (pe_and ha hb) fun σ H Q ⟨Z, ρ, S, ds, t, h⟩ => tE_bindB t h fun d S1 ρ1 H1 e1 t1 q => ⟨d, rfl, by
    cases d with
    | true => rw [if_pos rfl] at q ⊢; exact tE_to t1 e1 q
    | false => rw [if_neg Bool.false_ne_true] at q ⊢; exact (MP.pure q : Pt _ _ _ _ _ _ _) ρ1 H1 _ e1 t1.ok (.bl false)⟩
theorem em_or (ha : PEm X W a ma) (hb : PEm X W (.BoolOp .Or (b :: rest) pos) mb) : PEm X W (.BoolOp .Or (a :: b :: rest) pos) (mOrV ma mb) :=
  PE.imp (pe_or ha hb) fun σ H Q ⟨Z, ρ, S, ds, t, h⟩ => tE_bindB t h fun d S1 ρ1 H1 e1 t1 q => ⟨d, rfl, by
    cases d with
    | true => rw [if_pos rfl] at q ⊢; exact (MP.pure q : Pt _ _ _ _ _ _ _) ρ1 H1 _ e1 t1.ok (.bl true)
    | false => rw [if_neg Bool.false_ne_true] at q ⊢; exact tE_to t1 e1 q⟩
theorem em_not (ha : PEm X W a ma) : PEm X W (.UnaryOp .Not a pos) (mNotV ma) :=
  PE.imp (pe_not ha) fun σ H Q ⟨Z, ρ, S, ds, t, h⟩ => tE_bindB t h fun d S1 ρ1 H1 e1 t1 q => ⟨d, rfl, (MP.pure q : Pt _ _ _ _ _ _ _) ρ1 H1 _ e1 t1.ok (.bl (!d))⟩
def mIf (mt : TM) (ma mb : EM) : EM := fun ds => mt ds >>= fun c => if c = true then ma ds else mb ds
theorem em_ifExp (hc : PTm X W c mt) (ha : PEm X W a ma) (hb : PEm X W b mb) : PEm X W (.IfExp c a b pos) (mIf mt ma mb) :=
  PE.imp (pe_ifExp hc ha hb) fun σ H Q ⟨Z, ρ, S, ds, t, h⟩ => tT_bind t h fun d S1 ρ1 H1 e1 t1 q => by
    cases d with
    | true => rw [if_pos rfl] at q ⊢; exact tE_to t1 e1 q
    | false => rw [if_neg Bool.false_ne_true] at q ⊢; exact tE_to t1 e1 q
/-- a op1 b op2 c -/
def mChain (f g : F2) (ma mb mc : EM) : EM := fun ds => ma ds >>= fun x => mb ds >>= fun y => M.lift (f x y) >>= fun z => match z with
  | .bl true => mc ds >>= fun w => M.lift (g y w)
  | .bl false => pure (.bl false)
  | _ => stuck
theorem tChain_of {r r' : R2} {f g : F2} {mc : EM} (hf : OpD X.K r f) (hg : OpD X.K r' g) {σ : L2.St} {H : Hp} {Q : VK} (h : tE X.K W (mChain f g ma mb mc) σ H Q) : tChain r r' (tE X.K W ma) (tE X.K W mb) (tE X.K W mc) σ H Q := by
  obtain ⟨Z, ρ, S, ds, t, h⟩ := h
  refine tE_bind t h fun d1 S1 ρ1 H1 v1 e1 t1 i1 q1 => ?_
  refine tE_bind t1 q1 fun d2 S2 ρ2 H2 v2 e2 t2 i2 q2 => ?_
  obtain ⟨d3, S3, e3, q3⟩ := MP.lift (MP.bind q2)
  refine hf Z ρ2 S2 S3 H2 v1 v2 d1 d2 d3 _ t2.ok (i1.mono t1.ok e2) i2 e3 fun ρ3 H3 v3 e4 k3 i3 => ?_
  have t3 := t2.up e4 k3
  cases i3 with
  | bl b =>
    refine ⟨b, rfl, ?_⟩
    cases b with
    | false => exact (MP.pure q3 : Pt _ _ _ _ _ _ _) ρ3 H3 _ ((e1.trans e2).trans e4) k3 (.bl false)
    | true =>
      rw [if_pos rfl]
      refine tE_bind t3 (q3.imp (fun _ _ z => z) fun _ _ _ z => W.up t2.ok e4 z) fun d4 S4 ρ4 H4 v4 e5 t4 i4 q4 => ?_
      obtain ⟨d5, S5, e6, q5⟩ := MP.lift q4
      exact hg Z ρ4 S4 S5 H4 v2 v4 d2 d4 d5 Q t4.ok (i2.mono t2.ok (e4.trans e5)) i4 e6 (q5.up (((e1.trans e2).trans e4).trans e5))
  | _ => exact q3.elim
theorem em_chain {op op' : CmpOp} {r r' : R2} {f g : F2} {mc : EM} (ho : OpR X (compareOp op) r) (ho' : OpR X (compareOp op') r') (hf : OpD X.K r f) (hg : OpD X.K r' g) (ha : PEm X W a ma) (hb : PEm X W b mb) (hc : PEm X W c mc)
    (hm : lastMarks [op, op'] [b, c] = false) : PEm X W (.Compare a [op, op'] [b, c] pos) (mChain f g ma mb mc) :=
  PE.imp (pe_chain ho ho' ha hb hc hm) fun _ _ _ h => tChain_of hf hg h
theorem tm_chain {op op' : CmpOp} {r r' : R2} {f g : F2} {mc : EM} (ho : OpR X (compareOp op) r) (ho' : OpR X (compareOp op') r') (hf : OpD X.K r f) (hg : OpD X.K r' g) (ha : PEm X W a ma) (hb : PEm X W b mb) (hc : PEm X W c mc)
    (hm : lastMarks [op, op'] [b, c] = false) : PTm X W (.Compare a [op, op'] [b, c] pos) (mBool (mChain f g ma mb mc)) :=
  PT.imp (pt_chain ho ho' ha hb hc hm) fun _ _ _ h => tChain_of hf hg (by
    obtain ⟨Z, ρ, S, ds, t, h⟩ := h
    refine ⟨Z, ρ, S, ds, t, (MP.bind h).imp (fun d S1 q ρ1 H1 v e1 k i => ?_) fun _ _ _ z => z⟩
    cases i with
    | bl b => exact ⟨b, rfl, (MP.pure q : PtB _ _ _ _ _ _ _) ρ1 H1 e1 k⟩
    | _ => exact q.elim)
/-! ### argument lists, displays, calls of what is built in -/
variable {ms : AM}
def mNil : AM := fun _ => pure []
def mCons (ma : EM) (ms : AM) : AM := fun ds => ma ds >>= fun x => ms ds >>= fun xs => pure (x :: xs)
theorem am_nil : PAm X W [] mNil := PA.imp pa_nil fun σ H Q ⟨Z, ρ, S, ds, t, h⟩ => (MP.pure h : PtA _ _ _ _ _ _ _) ρ H [] Ext.refl t.ok .nil
theorem tA_bind {σ : L2.St} {H : Hp} {ds : En} {Z ρ : List Addr} {S : Sto} {α : Type} {g : List D → M α} {P : α → Sto → Prop} (t : At X.K Z ρ S H σ ds) (h : MP ((ms ds >>= g) S) P (W.P Z ρ H σ ds))
    {R : List V → Hp → Prop} (k : ∀ d S1 ρ1 H1 v, Ext ρ H ρ1 H1 → At X.K Z ρ1 S1 H1 σ ds → IsAll X.K Z ρ1 H1 v d → MP (g d S1) P (W.P Z ρ1 H1 σ ds) → R v H1) : tA X.K W ms σ H R :=
  ⟨Z, ρ, S, ds, t, (MP.bind h).imp (fun d S1 q ρ1 H1 v e1 k1 i => k d S1 ρ1 H1 v e1 (t.up e1 k1) i (q.imp (fun _ _ z => z) fun _ _ _ z => W.up t.ok e1 z)) fun _ _ _ z => z⟩
theorem am_cons (ha : PEm X W e ma) (hr : PAm X W es ms) (hs : starEach (e :: es) X.env = (false, eval e X.env) :: starEach es X.env := by rfl) : PAm X W (e :: es) (mCons ma ms) :=
  PA.imp (pa_cons ha hr hs) fun σ H Q ⟨Z, ρ, S, ds, t, h⟩ => tE_bind t h fun d S1 ρ1 H1 v e1 t1 i q => tA_bind t1 q fun d2 S2 ρ2 H2 v2 e2 t2 i2 q2 =>
    (MP.pure q2 : PtA _ _ _ _ _ _ _) ρ2 H2 _ (e1.trans e2) t2.ok (.cons (i.mono t1.ok e2) i2)
def mTup (ms : AM) : EM := fun ds => ms ds >>= fun xs => M.of (if xs.length ≤ 1000000 then some (.tup xs) else none)
def mLst (ms : AM) : EM := fun ds => ms ds >>= fun xs => M.of (if xs.length ≤ 1000000 then some (.lst xs) else none)
/-- a list that is to change -/
def newCell (xs : List D) : Sto → Option (D × Sto) := fun S => if xs.length ≤ 1000000 then some (.cell S.length, S ++ [.lst xs]) else none
def mCell (ms : AM) : EM := fun ds => ms ds >>= fun xs => M.lift (newCell xs)
theorem of_if {α : Type} {c : Prop} [Decidable c] {a b : α} (h : (if c then some a else none) = some b) : c ∧ a = b := by
  by_cases hc : c
  · rw [if_pos hc] at h; exact ⟨hc, Option.some.inj h⟩
  · rw [if_neg hc] at h; cases h
theorem sz {n : Nat} (h : n ≤ 1000000) : n ≤ sizeLine := by rw [sizeLine_eq]; omega
theorem em_tup {k} (h : PAm X W es ms) : PEm X W (.Tuple es k pos) (mTup ms) :=
  PE.imp (pe_tup h) fun σ H Q ⟨Z, ρ, S, ds, t, h⟩ => tA_bind t h fun xs S1 ρ1 H1 vs e1 t1 i q => by
    obtain ⟨d, e2, q2⟩ := MP.of q
    obtain ⟨hz, rfl⟩ := of_if e2
    exact ⟨by rw [i.length]; exact sz hz, fun p hp => q2 ρ1 _ _ (e1.trans (ext_new hp)) (t1.ok.new hp) (new_tup t1.ok hp i)⟩
theorem em_lst (h : PAm X W es ms) : PEm X W (.List es pos) (mLst ms) :=
  PE.imp (pe_lst h) fun σ H Q ⟨Z, ρ, S, ds, t, h⟩ => tA_bind t h fun xs S1 ρ1 H1 vs e1 t1 i q => by
    obtain ⟨d, e2, q2⟩ := MP.of q
    obtain ⟨hz, rfl⟩ := of_if e2
    exact ⟨by rw [i.length]; exact sz hz, fun p hp => q2 ρ1 _ _ (e1.trans (ext_new hp)) (t1.ok.new hp) (new_lst t1.ok hp i)⟩
theorem new_cell {Z ρ : List Addr} {S S' : Sto} {H : Hp} {K : PySem.W.Frag} {xs : List D} {vs : List V} {d : D} {Q : VK} (k : Ok K Z ρ S H) (i : IsAll K Z ρ H vs xs) (h : newCell xs S = some (d, S')) (q : Pt K Z ρ H Q d S') :
    vs.length ≤ sizeLine ∧ ∀ p, H p = none → Q (.ref p) (upd H p (.lst vs)) := by
  obtain ⟨hz, e⟩ := of_if h
  cases e
  refine ⟨by rw [i.length]; exact sz hz, fun p hp => ?_⟩
  obtain ⟨k2, e2, i2⟩ := k.cell_of hp i
  exact q _ _ _ e2 k2 i2
theorem em_cell (h : PAm X W es ms) : PEm X W (.List es pos) (mCell ms) :=
  PE.imp (pe_lst h) fun σ H Q ⟨Z, ρ, S, ds, t, h⟩ => tA_bind t h fun xs S1 ρ1 H1 vs e1 t1 i q => by
    obtain ⟨d, S2, e2, q2⟩ := MP.lift q
    exact new_cell t1.ok i e2 (q2.up e1)
def mCall (f : FA) (ms : AM) : EM := fun ds => ms ds >>= fun xs => M.lift (f xs)
theorem tCB_of {r : List V → Hp → VK → Prop} {f : FA} (hf : CallD X.K r f) {σ : L2.St} {H : Hp} {Q : VK} (h : tE X.K W (mCall f ms) σ H Q) : tCB r (tA X.K W ms) σ H Q := by
  obtain ⟨Z, ρ, S, ds, t, h⟩ := h
  exact tA_bind t h fun xs S1 ρ1 H1 vs e1 t1 i q => by
    obtain ⟨d, S2, e2, q2⟩ := MP.lift q
    exact hf Z ρ1 S1 S2 H1 vs xs d Q t1.ok i e2 (q2.up e1)
end
end Pv

/-! Pv3: the operations on data. -/
namespace Pv
open PySem PySem.Spec PyProof.Rows L2

/-! ### data as the library's data: equality -/
mutual
def toPy : D → Option PyData
  | .non => some .none
  | .bl b => some (.bool b)
  | .int i => some (.int i)
  | .str x => some (.str x)
  | .tup xs => (toPyAll xs).map .tuple
  | .lst xs => (toPyAll xs).map .list
  | .cell _ => none
  | .ty _ => none
  | .scr _ => none
def toPyAll : List D → Option (List PyData)
  | [] => some []
  | x :: xs => match toPy x, toPyAll xs with
    | some p, some ps => some (p :: ps)
    | _, _ => none
end
mutual
/-- plain data, its texts of signs that there are -/
def pln : D → Bool
  | .non => true
  | .bl _ => true
  | .int _ => true
  | .str x => x.cps.toList.all fun c => decide (c < 1114112)
  | .tup xs => plnAll xs
  | .lst xs => plnAll xs
  | .cell _ => false
  | .ty _ => false
  | .scr _ => false
def plnAll : List D → Bool
  | [] => true
  | x :: xs => pln x && plnAll xs
end
mutual
def dep : D → Nat
  | .tup xs => depAll xs + 1
  | .lst xs => depAll xs + 1
  | _ => 0
def depAll : List D → Nat
  | [] => 0
  | x :: xs => max (dep x) (depAll xs)
end
mutual
/-- Python's == -/
def deq : D → D → Bool
  | .non, .non => true
  | .bl a, .bl b => a == b
  | .bl a, .int j => (if a then 1 else 0) == j
  | .int i, .bl b => i == (if b then 1 else 0)
  | .int i, .int j => i == j
  | .str x, .str y => x == y
  | .tup xs, .tup ys => deqAll xs ys
  | .lst xs, .lst ys => deqAll xs ys
  | _, _ => false
def deqAll : List D → List D → Bool
  | [], [] => true
  | x :: xs, y :: ys => deq x y && deqAll xs ys
  | _, _ => false
end
mutual
theorem toPy_of : ∀ (d : D), pln d = true → ∃ p, toPy d = some p ∧ p.canLay0 = true ∧ p.depth = dep d
  | .non, _ => ⟨_, rfl, by simp [PyData.canLay0], by simp [PyData.depth, dep]⟩
  | .bl _, _ => ⟨_, rfl, by simp [PyData.canLay0], by simp [PyData.depth, dep]⟩
  | .int _, _ => ⟨_, rfl, by simp [PyData.canLay0], by simp [PyData.depth, dep]⟩
  | .str x, h => ⟨_, rfl, by
      have h' : (x.cps.toList.all fun c => decide (c < 1114112)) = true := h
      simp only [PyData.canLay0, PyData.strOk]
      rw [← Array.all_toList]
      exact h', by simp [PyData.depth, dep]⟩
  | .tup xs, h => by
    obtain ⟨ps, e, c, z⟩ := toPyAll_of xs h
    exact ⟨.tuple ps, by simp [toPy, e], by simpa [PyData.canLay0] using c, by simp [PyData.depth, dep, z]⟩
  | .lst xs, h => by
    obtain ⟨ps, e, c, z⟩ := toPyAll_of xs h
    exact ⟨.list ps, by simp [toPy, e], by simpa [PyData.canLay0] using c, by simp [PyData.depth, dep, z]⟩
theorem toPyAll_of : ∀ (xs : List D), plnAll xs = true → ∃ ps, toPyAll xs = some ps ∧ PyData.canLayAll0 ps = true ∧ PyData.depthAll ps = depAll xs
  | [], _ => ⟨[], rfl, by simp [PyData.canLayAll0], by simp [PyData.depthAll, depAll]⟩
  | x :: xs, h => by
    have h' : (pln x && plnAll xs) = true := h
    rw [Bool.and_eq_true] at h'
    obtain ⟨p, e, c, z⟩ := toPy_of x h'.1
    obtain ⟨ps, es, cs, zs⟩ := toPyAll_of xs h'.2
    exact ⟨p :: ps, by simp [toPyAll, e, es], by simp [PyData.canLayAll0, c, cs], by simp [PyData.depthAll, depAll, z, zs]⟩
end
mutual
theorem eqv_deq : ∀ (d e : D) (p q : PyData), toPy d = some p → toPy e = some q → PyData.eqv p q = deq d e
  | .tup xs, e, p, q, h1, h2 => by
    cases e with
    | tup ys =>
      simp only [toPy, Option.map_eq_some_iff] at h1 h2
      obtain ⟨ps, e1, rfl⟩ := h1
      obtain ⟨qs, e2, rfl⟩ := h2
      simp only [PyData.eqv, deq]
      exact eqvAll_deq xs ys ps qs e1 e2
    | non => simp only [toPy, Option.map_eq_some_iff] at h1; obtain ⟨ps, e1, rfl⟩ := h1; cases h2; simp [PyData.eqv, deq]
    | bl b => simp only [toPy, Option.map_eq_some_iff] at h1; obtain ⟨ps, e1, rfl⟩ := h1; cases h2; simp [PyData.eqv, deq]
    | int b => simp only [toPy, Option.map_eq_some_iff] at h1; obtain ⟨ps, e1, rfl⟩ := h1; cases h2; simp [PyData.eqv, deq]
    | str b => simp only [toPy, Option.map_eq_some_iff] at h1; obtain ⟨ps, e1, rfl⟩ := h1; cases h2; simp [PyData.eqv, deq]
    | lst ys => simp only [toPy, Option.map_eq_some_iff] at h1 h2; obtain ⟨ps, e1, rfl⟩ := h1; obtain ⟨qs, e2, rfl⟩ := h2; simp [PyData.eqv, deq]
    | cell _ => cases h2
    | ty _ => cases h2
    | scr _ => cases h2
  | .lst xs, e, p, q, h1, h2 => by
    cases e with
    | lst ys =>
      simp only [toPy, Option.map_eq_some_iff] at h1 h2
      obtain ⟨ps, e1, rfl⟩ := h1
      obtain ⟨qs, e2, rfl⟩ := h2
      simp only [PyData.eqv, deq]
      exact eqvAll_deq xs ys ps qs e1 e2
    | non => simp only [toPy, Option.map_eq_some_iff] at h1; obtain ⟨ps, e1, rfl⟩ := h1; cases h2; simp [PyData.eqv, deq]
    | bl b => simp only [toPy, Option.map_eq_some_iff] at h1; obtain ⟨ps, e1, rfl⟩ := h1; cases h2; simp [PyData.eqv, deq]
    | int b => simp only [toPy, Option.map_eq_some_iff] at h1; obtain ⟨ps, e1, rfl⟩ := h1; cases h2; simp [PyData.eqv, deq]
    | str b => simp only [toPy, Option.map_eq_some_iff] at h1; obtain ⟨ps, e1, rfl⟩ := h1; cases h2; simp [PyData.eqv, deq]
    | tup ys => simp only [toPy, Option.map_eq_some_iff] at h1 h2; obtain ⟨ps, e1, rfl⟩ := h1; obtain ⟨qs, e2, rfl⟩ := h2; simp [PyData.eqv, deq]
    | cell _ => cases h2
    | ty _ => cases h2
    | scr _ => cases h2
  | .non, e, p, q, h1, h2 => by
    cases h1
    cases e <;> first
      | (cases h2; done)
      | (cases h2; simp [PyData.eqv, deq]; done)
      | (simp only [toPy, Option.map_eq_some_iff] at h2; obtain ⟨qs, e2, rfl⟩ := h2; simp [PyData.eqv, deq])
  | .bl b, e, p, q, h1, h2 => by
    cases h1
    cases e <;> first
      | (cases h2; done)
      | (cases h2; simp [PyData.eqv, deq]; done)
      | (simp only [toPy, Option.map_eq_some_iff] at h2; obtain ⟨qs, e2, rfl⟩ := h2; simp [PyData.eqv, deq])
  | .int b, e, p, q, h1, h2 => by
    cases h1
    cases e <;> first
      | (cases h2; done)
      | (cases h2; simp [PyData.eqv, deq]; done)
      | (simp only [toPy, Option.map_eq_some_iff] at h2; obtain ⟨qs, e2, rfl⟩ := h2; simp [PyData.eqv, deq])
  | .str b, e, p, q, h1, h2 => by
    cases h1
    cases e <;> first
      | (cases h2; done)
      | (cases h2; simp [PyData.eqv, deq]; done)
      | (simp only [toPy, Option.map_eq_some_iff] at h2; obtain ⟨qs, e2, rfl⟩ := h2; simp [PyData.eqv, deq])
  | .cell _, _, _, _, h1, _ => by cases h1
  | .ty _, _, _, _, h1, _ => by cases h1
  | .scr _, _, _, _, h1, _ => by cases h1
theorem eqvAll_deq : ∀ (ds es : List D) (ps qs : List PyData), toPyAll ds = some ps → toPyAll es = some qs → PyData.eqvAll ps qs = deqAll ds es
  | [], [], _, _, h1, h2 => by cases h1; cases h2; simp [PyData.eqvAll, deqAll]
  | [], e :: es, ps, qs, h1, h2 => by
    cases h1
    simp only [toPyAll] at h2
    split at h2
    · cases h2; simp [PyData.eqvAll, deqAll]
    · cases h2
  | d :: ds, [], ps, qs, h1, h2 => by
    cases h2
    simp only [toPyAll] at h1
    split at h1
    · cases h1; simp [PyData.eqvAll, deqAll]
    · cases h1
  | d :: ds, e :: es, ps, qs, h1, h2 => by
    simp only [toPyAll] at h1 h2
    split at h1
    · rename_i a b c1 c2
      split at h2
      · rename_i a' b' c1' c2'
        cases h1; cases h2
        simp only [PyData.eqvAll, deqAll]
        rw [eqv_deq d e a a' c1 c1', eqvAll_deq ds es b b' c2 c2']
      · cases h2
    · cases h1
end
mutual
theorem deq_refl : ∀ (d : D), pln d = true → deq d d = true
  | .non, _ => rfl
  | .bl b, _ => by simp [deq]
  | .int b, _ => by simp [deq]
  | .str b, _ => by simp [deq]
  | .tup xs, h => by simp only [deq]; exact deqAll_refl xs h
  | .lst xs, h => by simp only [deq]; exact deqAll_refl xs h
theorem deqAll_refl : ∀ (ds : List D), plnAll ds = true → deqAll ds ds = true
  | [], _ => rfl
  | d :: ds, h => by
    have h' : (pln d && plnAll ds) = true := h
    rw [Bool.and_eq_true] at h'
    simp only [deqAll, deq_refl d h'.1, deqAll_refl ds h'.2, Bool.and_self]
end

/-! ### what a value shows -/
/-- a cell's content, else the value itself -/
def vw (S : Sto) : D → D
  | .cell k => match S[k]? with
    | some (.lst ds) => .lst ds
    | none => .cell k
  | .scr ds => .lst ds
  | d => d
section
variable {K : PySem.W.Frag} {Z ρ : List Addr} {S : Sto} {H : Hp} {v : V} {d : D} {ds : List D}
theorem vw_lst (k : Ok K Z ρ S H) (i : Is K Z ρ H v d) (e : vw S d = .lst ds) : ∃ a vs, v = .ref a ∧ SqL K H a vs ∧ IsAll K Z ρ H vs ds := by
  cases i with
  | lst h r => cases e; exact ⟨_, _, rfl, h.seq, r⟩
  | scr h r => cases e; exact ⟨_, _, rfl, h.seq, r⟩
  | cell h =>
    rename_i a n
    simp only [vw] at e
    cases q : S[n]? with
    | none => rw [q] at e; cases e
    | some c =>
      cases c with
      | lst es =>
        rw [q] at e
        cases e
        obtain ⟨vs, h1, r⟩ := k.cell n a _ h q
        exact ⟨a, vs, rfl, SqL.of h1, r⟩
  | _ => cases e
theorem vw_tup (i : Is K Z ρ H v d) (e : vw S d = .tup ds) : ∃ a vs, v = .ref a ∧ SqT K H a vs ∧ IsAll K Z ρ H vs ds := by
  cases i with
  | tup h r => cases e; exact ⟨_, _, rfl, h, r⟩
  | cell h =>
    rename_i a n
    simp only [vw] at e
    cases q : S[n]? with
    | none => rw [q] at e; cases e
    | some c => cases c with | lst es => rw [q] at e; cases e
  | _ => cases e
theorem vw_int {n : Int} (i : Is K Z ρ H v d) (e : vw S d = .int n) : v = .int n := by
  cases i with
  | int j => cases e; rfl
  | cell h =>
    rename_i a n
    simp only [vw] at e
    cases q : S[n]? with
    | none => rw [q] at e; cases e
    | some c => cases c with | lst es => rw [q] at e; cases e
  | _ => cases e
theorem vw_str {x : Str} (i : Is K Z ρ H v d) (e : vw S d = .str x) : v = .str x := by
  cases i with
  | str j => cases e; rfl
  | cell h =>
    rename_i a n
    simp only [vw] at e
    cases q : S[n]? with
    | none => rw [q] at e; cases e
    | some c => cases c with | lst es => rw [q] at e; cases e
  | _ => cases e
mutual
theorem Is.dp : ∀ {v : V} {d : D} {p : PyData}, Is K Z ρ H v d → toPy d = some p → Dp K H v p
  | _, _, _, .non, e => by cases e; exact .non
  | _, _, _, .bl b, e => by cases e; exact .bl b
  | _, _, _, .int b, e => by cases e; exact .int b
  | _, _, _, .str b, e => by cases e; exact .str b
  | _, _, _, .tup h r, e => by
    simp only [toPy, Option.map_eq_some_iff] at e
    obtain ⟨ps, e1, rfl⟩ := e
    exact .tup h (IsAll.dp r e1)
  | _, _, _, .lst h r, e => by
    simp only [toPy, Option.map_eq_some_iff] at e
    obtain ⟨ps, e1, rfl⟩ := e
    exact .lst h.seq (IsAll.dp r e1)
  | _, _, _, .cell _, e => by cases e
  | _, _, _, .ty _, e => by cases e
  | _, _, _, .scr _ _, e => by cases e
theorem IsAll.dp : ∀ {vs : List V} {ds : List D} {ps : List PyData}, IsAll K Z ρ H vs ds → toPyAll ds = some ps → DpAll K H vs ps
  | _, _, _, .nil, e => by cases e; exact .nil
  | _, _, _, .cons i r, e => by
    simp only [toPyAll] at e
    split at e
    · rename_i a b c1 c2
      cases e
      exact .cons (Is.dp i c1) (IsAll.dp r c2)
    · cases e
end
theorem vw_dp {p : PyData} (k : Ok K Z ρ S H) (i : Is K Z ρ H v d) (e : toPy (vw S d) = some p) : Dp K H v p := by
  cases d with
  | cell n =>
    cases q : vw S (.cell n) with
    | lst es =>
      obtain ⟨a, vs, rfl, h, r⟩ := vw_lst k i q
      rw [q] at e
      simp only [toPy, Option.map_eq_some_iff] at e
      obtain ⟨ps, e1, rfl⟩ := e
      exact .lst h (r.dp e1)
    | cell m => rw [q] at e; cases e
    | ty m => rw [q] at e; cases e
    | scr m => rw [q] at e; cases e
    | non => simp only [vw] at q; split at q <;> cases q
    | bl _ => simp only [vw] at q; split at q <;> cases q
    | int _ => simp only [vw] at q; split at q <;> cases q
    | str _ => simp only [vw] at q; split at q <;> cases q
    | tup _ => simp only [vw] at q; split at q <;> cases q
  | scr es =>
    obtain ⟨a, vs, rfl, h, r⟩ := vw_lst (S := S) k i rfl
    simp only [vw, toPy, Option.map_eq_some_iff] at e
    obtain ⟨ps, e1, rfl⟩ := e
    exact .lst h (r.dp e1)
  | _ => exact i.dp e
end
end Pv

/-! Pv4: operators. -/
namespace Pv
open PySem PySem.Spec PyProof.Rows L2
/-- a list that is tracked: its items -/
def vl (S : Sto) : D → Option (List D)
  | .lst xs => some xs
  | .cell k => match S[k]? with
    | some (.lst xs) => some xs
    | none => none
  | _ => none
section
variable {K : PySem.W.Frag} {Z ρ : List Addr} {S : Sto} {H : Hp} {v : V} {d : D} {ds : List D} {vs : List V}
theorem vl_tr (k : Ok K Z ρ S H) (i : Is K Z ρ H v d) (e : vl S d = some ds) : ∃ a vs, v = .ref a ∧ H a = some (.lst vs) ∧ IsAll K Z ρ H vs ds := by
  cases i with
  | lst h r => cases e; exact ⟨_, _, rfl, h.1, r⟩
  | cell h =>
    rename_i a n
    simp only [vl] at e
    cases q : S[n]? with
    | none => rw [q] at e; cases e
    | some c =>
      cases c with
      | lst es =>
        rw [q] at e
        cases e
        obtain ⟨vs, h1, r⟩ := k.cell n a _ h q
        exact ⟨a, vs, rfl, h1, r⟩
  | _ => cases e
/-- a value told at once -/
theorem Pt.val {Q : VK} {S : Sto} (q : Pt K Z ρ H Q d S) (k : Ok K Z ρ S H) (i : Is K Z ρ H v d) : Q v H := q ρ H v Ext.refl k i
theorem Pt.tup {Q : VK} {S : Sto} (q : Pt K Z ρ H Q (.tup ds) S) (k : Ok K Z ρ S H) (r : IsAll K Z ρ H vs ds) : ∀ p, H p = none → Q (.ref p) (upd H p (.tup vs)) :=
  fun p hp => q ρ _ _ (ext_new hp) (k.new hp) (new_tup k hp r)
theorem Pt.lst {Q : VK} {S : Sto} (q : Pt K Z ρ H Q (.lst ds) S) (k : Ok K Z ρ S H) (r : IsAll K Z ρ H vs ds) : ∀ p, H p = none → Q (.ref p) (upd H p (.lst vs)) :=
  fun p hp => q ρ _ _ (ext_new hp) (k.new hp) (new_lst k hp r)
theorem IsAll.nilV (r : IsAll K Z ρ H [] ds) : ds = [] := by cases r; rfl
theorem IsAll.nilD (r : IsAll K Z ρ H vs []) : vs = [] := by cases r; rfl
end
theorem some_if {α : Type} {c : Prop} [Decidable c] {a : α} {b : α} (h : (if c then some a else none) = some b) : c ∧ a = b := of_if h

/-! ### + -/
def fAdd : F2 := fun x y S => match x, y with
  | .int i, .int j => some (.int (i + j), S)
  | .str a, .str b => if a.length + b.length ≤ 1000000 then some (.str (a ++ b), S) else none
  | .tup xs, .tup ys => if xs.length + ys.length ≤ 1000000 then some (.tup (xs ++ ys), S) else none
  | x, y => match vl S x, vl S y with
    | some xs, some ys => if xs.length + ys.length ≤ 1000000 then some (.lst (xs ++ ys), S) else none
    | _, _ => none
def rAdd (K : PySem.W.Frag) : R2 := fun x y H Q => (rI0 (fun i j => .int (i + j)) x y H Q) ∨ (∃ i j, x = .str i ∧ y = .str j ∧ i.length + j.length ≤ sizeLine ∧ Q (.str (i ++ j)) H) ∨ rCatA K x y H Q ∨ rCat x y H Q
section
variable {X : Cx}
theorem or_add : OpR X (binaryOp .Add) (rAdd X.K) := op_add.or (op_add_str.or (op_catA.or op_cat))
theorem od_add (K : PySem.W.Frag) : OpD K (rAdd K) fAdd := by
  intro Z ρ S S' H x y dx dy d Q k ix iy h q
  unfold fAdd at h
  split at h
  · cases ix; cases iy; cases h
    exact .inl ⟨_, _, rfl, rfl, q.val k (.int _)⟩
  · cases ix; cases iy
    obtain ⟨hz, e⟩ := of_if h
    cases e
    exact .inr (.inl ⟨_, _, rfl, rfl, sz hz, q.val k (.str _)⟩)
  · rename_i xs ys
    obtain ⟨hz, e⟩ := of_if h
    cases e
    obtain ⟨a, vs, rfl, ha, ra⟩ := vw_tup (S := S) ix rfl
    obtain ⟨b, ws, rfl, hb, rb⟩ := vw_tup (S := S) iy rfl
    refine .inr (.inr (.inl ⟨a, b, vs, ws, rfl, rfl, ha, hb, by rw [ra.length, rb.length]; exact sz hz, fun e => ?_, fun n e => ?_, fun n1 n2 => q.tup k (ra.append rb)⟩))
    · subst e
      have e2 := ra.nilV
      subst e2
      exact q.val k (.tup hb rb)
    · subst e
      have e2 := rb.nilV
      subst e2
      rw [List.append_nil] at q
      exact q.val k (.tup ha ra)
  · split at h
    · rename_i xs ys e1 e2
      obtain ⟨hz, e⟩ := of_if h
      cases e
      obtain ⟨a, vs, rfl, ha, ra⟩ := vl_tr k ix e1
      obtain ⟨b, ws, rfl, hb, rb⟩ := vl_tr k iy e2
      exact .inr (.inr (.inr ⟨a, b, vs, ws, rfl, rfl, ha, hb, by rw [ra.length, rb.length]; exact sz hz, q.lst k (ra.append rb)⟩))
    · cases h

/-! ### - * % // ** -/
def fSub : F2 := fun x y S => match x, y with
  | .int i, .int j => some (.int (i - j), S)
  | _, _ => none
theorem od_sub (K : PySem.W.Frag) : OpD K (rI0 fun i j => .int (i - j)) fSub := by
  intro Z ρ S S' H x y dx dy d Q k ix iy h q
  unfold fSub at h
  split at h
  · cases ix; cases iy; cases h
    exact ⟨_, _, rfl, rfl, q.val k (.int _)⟩
  · cases h
/-- a text n times -/
def repS (a : Str) (n : Nat) : Str := ⟨(List.replicate n a.cps.toList).flatten.toArray⟩
def fMul : F2 := fun x y S => match x, y with
  | .int i, .int j => if (decide (-18446744073709551616 < i ∧ i < 18446744073709551616) || decide (-18446744073709551616 < j ∧ j < 18446744073709551616)) = true then some (.int (i * j), S) else none
  | .str a, .int j => if 0 ≤ j ∧ j ≤ 1000000 ∧ a.length * j.toNat ≤ 1000000 then some (.str (repS a j.toNat), S) else none
  | x, .int j => match vl S x with
    | some xs => if 0 ≤ j ∧ j ≤ 1000000 ∧ xs.length * j.toNat ≤ 1000000 then some (.lst (List.replicate j.toNat xs).flatten, S) else none
    | none => none
  | _, _ => none
def rStrRep : R2 := fun x y H Q => ∃ (a : Str) (j : Int), x = .str a ∧ y = .int j ∧ 0 ≤ j ∧ j ≤ 1000000 ∧ a.length * j.toNat ≤ 1000000 ∧ Q (.str (repS a j.toNat)) H
theorem rep_cps (a : Array Nat) : ∀ (n : Nat) (acc : Array Nat), List.foldl (fun x1 x2 => x1 ++ x2) acc (List.replicate n a) = acc ++ (List.replicate n a.toList).flatten.toArray
  | 0, acc => by simp
  | n + 1, acc => by
    rw [List.replicate_succ, List.foldl_cons, rep_cps a n, List.replicate_succ, List.flatten_cons]
    apply Array.ext'
    simp
theorem repS_zero (a : Str) : repS a 0 = ⟨#[]⟩ := rfl
theorem op_strRep : OpR X (binaryOp .Mult) rStrRep := by
  intro pins s σ H x y v u Q I rx ry h
  obtain ⟨a, j, rfl, rfl, h0, h1, hz, q⟩ := h
  obtain ⟨t, rfl⟩ := rx
  obtain ⟨t', rfl⟩ := ry
  have hsl := sizeLine_eq
  refine PySem.P.mul_str ?_ (fun hn hn2 => ?_) (fun hn hn2 => ?_) ?_
  · rw [decide_eq_false (by omega), decide_eq_false (by omega)]; rfl
  · have hj : 1 ≤ j := by omega
    have hl : (a.length : Int) ≤ 1000000 := by
      have : a.length ≤ a.length * j.toNat := Nat.le_mul_of_pos_right _ (by omega)
      omega
    intro hc
    have h3 : (2 ^ 63 - 1 : Int) / 1000000 ≤ (2 ^ 63 - 1) / j := by
      rw [Int.le_ediv_iff_mul_le (by omega)]
      have : (2 ^ 63 - 1 : Int) / 1000000 * j ≤ (2 ^ 63 - 1 : Int) / 1000000 * 1000000 := Int.mul_le_mul_of_nonneg_left h1 (by decide)
      have e : (2 ^ 63 - 1 : Int) / 1000000 * 1000000 ≤ 2 ^ 63 - 1 := by decide
      omega
    have h4 : (1000000 : Int) ≤ (2 ^ 63 - 1) / 1000000 := by decide
    omega
  · show decide (a.length * j.toNat > sizeLine) = false
    exact decide_eq_false (by omega)
  · by_cases hj : j < 1
    · rw [if_pos hj]
      have e : j = 0 := by omega
      subst e
      refine ⟨?_, ?_⟩
      · show (0 : Nat) ≤ sizeLine
        omega
      · exact ⟨.str _, H, I.tok _, ⟨_, rfl⟩, q⟩
    · rw [if_neg hj]
      by_cases hc : (j == 1 || a.length == 0) = true
      · rw [if_pos hc]
        have e : repS a j.toNat = a := by
          rw [Bool.or_eq_true] at hc
          rcases hc with hc | hc
          · have : j = 1 := by simpa using hc
            subst this
            show (⟨(List.replicate 1 a.cps.toList).flatten.toArray⟩ : Str) = a
            simp
          · have hl : a.cps.size = 0 := by simpa [Str.length] using hc
            have e0 : a.cps.toList = [] := by
              apply List.eq_nil_of_length_eq_zero
              simpa using hl
            have e1 : a.cps = #[] := by
              apply Array.ext'
              simpa using e0
            show (⟨(List.replicate j.toNat a.cps.toList).flatten.toArray⟩ : Str) = a
            rw [e0]
            have : (List.replicate j.toNat ([] : List Nat)).flatten = [] := by simp
            rw [this]
            cases a; simp_all
        rw [e] at q
        exact ⟨.str a, H, I, ⟨t, rfl⟩, q⟩
      · rw [if_neg hc]
        have e : List.foldl (fun x1 x2 => x1 ++ x2) #[] (List.replicate j.toNat a.cps) = (List.replicate j.toNat a.cps.toList).flatten.toArray := by
          rw [rep_cps]; simp
        rw [e]
        refine ⟨?_, .str _, H, I.tok _, ⟨_, rfl⟩, q⟩
        show (List.replicate j.toNat a.cps.toList).flatten.toArray.size ≤ sizeLine
        rw [List.size_toArray, List.length_flatten, List.map_replicate, List.sum_replicate_nat]
        have : a.cps.toList.length = a.length := by simp [Str.length]
        rw [this]
        have : j.toNat * a.length = a.length * j.toNat := Nat.mul_comm _ _
        omega
def rMul : R2 := fun x y H Q => (rI CMul (fun i j => .int (i * j)) x y H Q) ∨ rStrRep x y H Q ∨ rRep x y H Q
theorem or_mul : OpR X (binaryOp .Mult) rMul := op_mul.or (op_strRep.or op_rep)
theorem IsAll.rep {K : PySem.W.Frag} {Z ρ : List Addr} {H : Hp} {vs : List V} {ds : List D} (r : IsAll K Z ρ H vs ds) : ∀ n : Nat, IsAll K Z ρ H (List.replicate n vs).flatten (List.replicate n ds).flatten
  | 0 => .nil
  | n + 1 => by
    rw [List.replicate_succ, List.replicate_succ, List.flatten_cons, List.flatten_cons]
    exact r.append (IsAll.rep r n)
theorem od_mul (K : PySem.W.Frag) : OpD K rMul fMul := by
  intro Z ρ S S' H x y dx dy d Q k ix iy h q
  unfold fMul at h
  split at h
  · cases ix; cases iy
    obtain ⟨hc, e⟩ := of_if h
    cases e
    rw [Bool.or_eq_true, decide_eq_true_eq, decide_eq_true_eq] at hc
    refine .inl ⟨_, _, rfl, rfl, ?_, q.val k (.int _)⟩
    rcases hc with ⟨a, b⟩ | ⟨a, b⟩
    · exact .inl ⟨by omega, by omega⟩
    · exact .inr ⟨by omega, by omega⟩
  · cases ix; cases iy
    obtain ⟨⟨h0, h1, h2⟩, e⟩ := of_if h
    cases e
    exact .inr (.inl ⟨_, _, rfl, rfl, h0, h1, h2, q.val k (.str _)⟩)
  · cases iy
    split at h
    · rename_i xs e1
      obtain ⟨⟨h0, h1, h2⟩, e⟩ := of_if h
      cases e
      obtain ⟨a, vs, rfl, ha, ra⟩ := vl_tr k ix e1
      exact .inr (.inr ⟨a, _, vs, rfl, rfl, ha, by omega, by omega, by rw [ra.length]; exact sz h2, q.lst k (ra.rep _)⟩)
    · cases h
  · cases h
def fMod : F2 := fun x y S => match x, y with
  | .int i, .int j => if 0 < j then some (.int (i % j), S) else none
  | _, _ => none
theorem od_mod (K : PySem.W.Frag) : OpD K (rI (fun _ j => 0 < j) fun i j => .int (i % j)) fMod := by
  intro Z ρ S S' H x y dx dy d Q k ix iy h q
  unfold fMod at h
  split at h
  · cases ix; cases iy
    obtain ⟨hc, e⟩ := of_if h
    cases e
    exact ⟨_, _, rfl, rfl, hc, q.val k (.int _)⟩
  · cases h
def fDiv : F2 := fun x y S => match x, y with
  | .int i, .int j => if 0 < j ∧ j < 1073741824 then some (.int (i / j), S) else none
  | _, _ => none
theorem od_div (K : PySem.W.Frag) : OpD K (rI CDiv fun i j => .int (i / j)) fDiv := by
  intro Z ρ S S' H x y dx dy d Q k ix iy h q
  unfold fDiv at h
  split at h
  · cases ix; cases iy
    obtain ⟨hc, e⟩ := of_if h
    cases e
    exact ⟨_, _, rfl, rfl, hc, q.val k (.int _)⟩
  · cases h
def CPowW (i j : Int) : Prop := 0 ≤ j ∧ (Builtin.Int.intBits i : Int) * j ≤ 134217728
theorem op_powW : OpR X (binaryOp .Pow) (rI CPowW fun i j => .int (i ^ j.toNat)) := opI fun i j _ _ _ _ _ hc q => pow_int hc.1 (by have := hc.2; omega) q
def fPow : F2 := fun x y S => match x, y with
  | .int i, .int j => if 0 ≤ j ∧ (Builtin.Int.intBits i : Int) * j ≤ 134217728 then some (.int (i ^ j.toNat), S) else none
  | _, _ => none
theorem od_pow (K : PySem.W.Frag) : OpD K (rI CPowW fun i j => .int (i ^ j.toNat)) fPow := by
  intro Z ρ S S' H x y dx dy d Q k ix iy h q
  unfold fPow at h
  split at h
  · cases ix; cases iy
    obtain ⟨hc, e⟩ := of_if h
    cases e
    exact ⟨_, _, rfl, rfl, hc, q.val k (.int _)⟩
  · cases h
def fNeg : F1 := fun x S => match x with
  | .int i => some (.int (-i), S)
  | _ => none
theorem od_neg (K : PySem.W.Frag) : UnD K (rU fun i => .int (-i)) fNeg := by
  intro Z ρ S S' H x dx d Q k ix h q
  unfold fNeg at h
  split at h
  · cases ix; cases h
    exact ⟨_, rfl, q.val k (.int _)⟩
  · cases h
end
end Pv

/-! Pv5: comparisons, what is built in. -/
namespace Pv
open PySem PySem.Spec PyProof.Rows L2
/-! ### == and != -/
def eqOk (d : D) : Bool := pln d && decide (dep d ≤ 60)
def fEqD (n : Bool) : F2 := fun x y S => if (eqOk (vw S x) && eqOk (vw S y)) = true then some (.bl (n ^^ deq (vw S x) (vw S y)), S) else none
def fEq : F2 := fun x y S => match x, y with
  | .str a, .str b => some (.bl (decide (a = b)), S)
  | .int i, .int j => some (.bl (decide (i = j)), S)
  | x, y => fEqD false x y S
def fNe : F2 := fun x y S => match x, y with
  | .str a, .str b => some (.bl (!decide (a = b)), S)
  | .int i, .int j => some (.bl (!decide (i = j)), S)
  | x, y => fEqD true x y S
theorem eqOk_py {d : D} (h : eqOk d = true) : ∃ p, toPy d = some p ∧ SeqAt.shaped p = true := by
  unfold eqOk at h
  rw [Bool.and_eq_true, decide_eq_true_eq] at h
  obtain ⟨p, e, c, z⟩ := toPy_of d h.1
  refine ⟨p, e, ?_⟩
  unfold SeqAt.shaped
  rw [c, z, decide_eq_true (by omega)]
  rfl
section
variable {X : Cx}
def rEqA (K : PySem.W.Frag) : R2 := fun x y H Q => rEq x y H Q ∨ rEqD K x y H Q
def rNeA (K : PySem.W.Frag) : R2 := fun x y H Q => rNe x y H Q ∨ rNeD K x y H Q
theorem or_eq (hu : X.A.units + 64 < cLine) : OpR X (compareOp .Eq) (rEqA X.K) := op_eq.or (op_eqD hu)
theorem or_ne (hu : X.A.units + 64 < cLine) : OpR X (compareOp .NotEq) (rNeA X.K) := op_ne.or (op_neD hu)
theorem eqD_of {K : PySem.W.Frag} {Z ρ : List Addr} {S S' : Sto} {H : Hp} {x y : V} {dx dy d : D} {n : Bool} (k : Ok K Z ρ S H) (ix : Is K Z ρ H x dx) (iy : Is K Z ρ H y dy) (h : fEqD n dx dy S = some (d, S')) :
    S' = S ∧ ∃ b, d = .bl (n ^^ b) ∧ ∃ p p2, Dp K H x p ∧ Dp K H y p2 ∧ SeqAt.shaped p = true ∧ SeqAt.shaped p2 = true ∧ PyData.eqv p p2 = b := by
  obtain ⟨hc, e⟩ := of_if h
  cases e
  rw [Bool.and_eq_true] at hc
  obtain ⟨p, e1, s1⟩ := eqOk_py hc.1
  obtain ⟨p2, e2, s2⟩ := eqOk_py hc.2
  exact ⟨rfl, _, rfl, p, p2, vw_dp k ix e1, vw_dp k iy e2, s1, s2, eqv_deq _ _ p p2 e1 e2⟩
theorem od_eq (K : PySem.W.Frag) : OpD K (rEqA K) fEq := by
  intro Z ρ S S' H x y dx dy d Q k ix iy h q
  unfold fEq at h
  split at h
  · cases ix; cases iy; cases h
    exact .inl ⟨rfl, by simpa using q.val k (.bl _)⟩
  · cases ix; cases iy; cases h
    exact .inl ⟨rfl, by simpa using q.val k (.bl _)⟩
  · obtain ⟨rfl, b, rfl, p, p2, d1, d2, s1, s2, e⟩ := eqD_of k ix iy h
    refine .inr ⟨p, p2, d1, d2, s1, s2, ?_⟩
    rw [e]
    simpa using q.val k (.bl _)
theorem od_ne (K : PySem.W.Frag) : OpD K (rNeA K) fNe := by
  intro Z ρ S S' H x y dx dy d Q k ix iy h q
  unfold fNe at h
  split at h
  · cases ix; cases iy; cases h
    exact .inl ⟨rfl, by simpa using q.val k (.bl _)⟩
  · cases ix; cases iy; cases h
    exact .inl ⟨rfl, by simpa using q.val k (.bl _)⟩
  · obtain ⟨rfl, b, rfl, p, p2, d1, d2, s1, s2, e⟩ := eqD_of k ix iy h
    refine .inr ⟨p, p2, d1, d2, s1, s2, ?_⟩
    rw [e]
    simpa using q.val k (.bl _)

/-! ### order: ints, texts -/
def fLt : F2 := fun x y S => match x, y with
  | .int i, .int j => some (.bl (decide (i < j)), S)
  | .str a, .str b => some (.bl (decide (a.cps.toList < b.cps.toList)), S)
  | _, _ => none
def fLe : F2 := fun x y S => match x, y with
  | .int i, .int j => some (.bl (decide (i ≤ j)), S)
  | .str a, .str b => some (.bl (!decide (b.cps.toList < a.cps.toList)), S)
  | _, _ => none
def fGt : F2 := fun x y S => match x, y with
  | .int i, .int j => some (.bl (decide (j < i)), S)
  | .str a, .str b => some (.bl (decide (b.cps.toList < a.cps.toList)), S)
  | _, _ => none
def fGe : F2 := fun x y S => match x, y with
  | .int i, .int j => some (.bl (decide (j ≤ i)), S)
  | _, _ => none
def rII (g : Int → Int → Bool) (t : Str → Str → Bool) : R2 := fun x y H Q => (rI0 (fun i j => .bl (g i j)) x y H Q) ∨ ∃ i j, x = .str i ∧ y = .str j ∧ Q (.bl (t i j)) H
theorem or_lt : OpR X (compareOp .Lt) (rII (fun i j => decide (i < j)) fun a b => decide (a.cps.toList < b.cps.toList)) := op_lt.or op_lt_str
theorem or_le : OpR X (compareOp .LtE) (rII (fun i j => decide (i ≤ j)) fun a b => !decide (b.cps.toList < a.cps.toList)) := op_le.or op_le_str
theorem or_gt : OpR X (compareOp .Gt) (rII (fun i j => decide (j < i)) fun a b => decide (b.cps.toList < a.cps.toList)) := op_gt.or op_gt_str
theorem od_lt (K : PySem.W.Frag) : OpD K (rII (fun i j => decide (i < j)) fun a b => decide (a.cps.toList < b.cps.toList)) fLt := by
  intro Z ρ S S' H x y dx dy d Q k ix iy h q
  unfold fLt at h
  split at h
  · cases ix; cases iy; cases h; exact .inl ⟨_, _, rfl, rfl, q.val k (.bl _)⟩
  · cases ix; cases iy; cases h; exact .inr ⟨_, _, rfl, rfl, q.val k (.bl _)⟩
  · cases h
theorem od_le (K : PySem.W.Frag) : OpD K (rII (fun i j => decide (i ≤ j)) fun a b => !decide (b.cps.toList < a.cps.toList)) fLe := by
  intro Z ρ S S' H x y dx dy d Q k ix iy h q
  unfold fLe at h
  split at h
  · cases ix; cases iy; cases h; exact .inl ⟨_, _, rfl, rfl, q.val k (.bl _)⟩
  · cases ix; cases iy; cases h; exact .inr ⟨_, _, rfl, rfl, q.val k (.bl _)⟩
  · cases h
theorem od_gt (K : PySem.W.Frag) : OpD K (rII (fun i j => decide (j < i)) fun a b => decide (b.cps.toList < a.cps.toList)) fGt := by
  intro Z ρ S S' H x y dx dy d Q k ix iy h q
  unfold fGt at h
  split at h
  · cases ix; cases iy; cases h; exact .inl ⟨_, _, rfl, rfl, q.val k (.bl _)⟩
  · cases ix; cases iy; cases h; exact .inr ⟨_, _, rfl, rfl, q.val k (.bl _)⟩
  · cases h
theorem od_ge (K : PySem.W.Frag) : OpD K (rI0 fun i j => .bl (decide (j ≤ i))) fGe := by
  intro Z ρ S S' H x y dx dy d Q k ix iy h q
  unfold fGe at h
  split at h
  · cases ix; cases iy; cases h; exact ⟨_, _, rfl, rfl, q.val k (.bl _)⟩
  · cases h

/-! ### in -/
def fIn : F2 := fun x y S => match y with
  | .str z => match x with
    | .str c => match c.cps.toList with
      | [n] => some (.bl (decide (n ∈ z.cps.toList)), S)
      | _ => none
    | _ => none
  | y => match vw S y with
    | .lst ds => if (eqOk (vw S x) && eqOk (.lst ds)) = true then some (.bl (ds.any fun z => deq z (vw S x)), S) else none
    | .tup ds => if (eqOk (vw S x) && eqOk (.tup ds)) = true then some (.bl (ds.any fun z => deq z (vw S x)), S) else none
    | _ => none
def fNotIn : F2 := fun x y S => match fIn x y S with
  | some (.bl b, S') => some (.bl (!b), S')
  | _ => none
def rInT (K : PySem.W.Frag) (n : Bool) : R2 := fun x y H Q => ∃ d ds, Dp K H x d ∧ Dp K H y (.tuple ds) ∧ SeqAt.shaped d = true ∧ SeqAt.shaped (.tuple ds) = true ∧ Q (.bl (n ^^ ds.any fun z => PyData.eqv z d)) H
def rSg (n : Bool) : R2 := fun x y H Q => ∃ (c : Nat) (z : Str), x = .str ⟨#[c]⟩ ∧ y = .str z ∧ Q (.bl (n ^^ decide (c ∈ z.cps.toList))) H
def rInL (K : PySem.W.Frag) (n : Bool) : R2 := fun x y H Q => ∃ d ds, Dp K H x d ∧ Dp K H y (.list ds) ∧ SeqAt.shaped d = true ∧ SeqAt.shaped (.list ds) = true ∧ Q (.bl (n ^^ ds.any fun z => PyData.eqv z d)) H
theorem op_inT (hu : X.A.units + 65 < cLine) : OpR X (compareOp .In) (rInT X.K false) := by
  intro pins s σ H x y v u Q I rx ry h
  obtain ⟨d, ds, hd, he, sd, se, q⟩ := h
  obtain ⟨as, r1⟩ := Dp.reads I d x v hd rx
  obtain ⟨bs, r2⟩ := Dp.reads I (.tuple ds) y u he ry
  exact SeqAt.in_tuple_reads r2 r1 (SeqAt.canLay_of_shaped se) (SeqAt.canLay_of_shaped sd) (room_in_shaped sd hu) ⟨.bl _, H, I, rfl, by simpa using q⟩
theorem op_notInT (hu : X.A.units + 65 < cLine) : OpR X (compareOp .NotIn) (rInT X.K true) := by
  intro pins s σ H x y v u Q I rx ry h
  obtain ⟨d, ds, hd, he, sd, se, q⟩ := h
  obtain ⟨as, r1⟩ := Dp.reads I d x v hd rx
  obtain ⟨bs, r2⟩ := Dp.reads I (.tuple ds) y u he ry
  exact SeqAt.notIn_tuple_reads r2 r1 (SeqAt.canLay_of_shaped se) (SeqAt.canLay_of_shaped sd) (room_in_shaped sd hu) ⟨.bl _, H, I, rfl, by simpa using q⟩
def rInA (K : PySem.W.Frag) (n : Bool) : R2 := fun x y H Q => rSg n x y H Q ∨ rInL K n x y H Q ∨ rInT K n x y H Q
theorem OpR.imp {f : Value → Value → Sem Value} {r r' : R2} (h : OpR X f r) (i : ∀ x y H Q, r' x y H Q → r x y H Q) : OpR X f r' := fun pins s σ H x y v u Q I rx ry q => h pins s σ H x y v u Q I rx ry (i _ _ _ _ q)
theorem or_in (hu : X.A.units + 65 < cLine) : OpR X (compareOp .In) (rInA X.K false) :=
  (OpR.imp op_in_sign fun _ _ _ _ ⟨c, z, e1, e2, q⟩ => ⟨c, z, e1, e2, by simpa using q⟩).or ((OpR.imp (op_inD hu) fun _ _ _ _ ⟨d, ds, a, b, c, e, q⟩ => ⟨d, ds, a, b, c, e, by simpa using q⟩).or (op_inT hu))
theorem or_notIn (hu : X.A.units + 65 < cLine) : OpR X (compareOp .NotIn) (rInA X.K true) :=
  (OpR.imp op_notIn_sign fun _ _ _ _ ⟨c, z, e1, e2, q⟩ => ⟨c, z, e1, e2, by simpa using q⟩).or ((OpR.imp (op_notInD hu) fun _ _ _ _ ⟨d, ds, a, b, c, e, q⟩ => ⟨d, ds, a, b, c, e, by simpa using q⟩).or (op_notInT hu))
theorem any_deq {ds : List D} {ps : List PyData} (e : toPyAll ds = some ps) {d : D} {p : PyData} (e2 : toPy d = some p) : (ps.any fun z => PyData.eqv z p) = ds.any fun z => deq z d := by
  induction ds generalizing ps with
  | nil => cases e; rfl
  | cons x xs ih =>
    simp only [toPyAll] at e
    split at e
    · rename_i a b c1 c2
      cases e
      rw [List.any_cons, List.any_cons, ih c2, eqv_deq x d a p c1 e2]
    · cases e
theorem str_one {c : Str} {n : Nat} (e : c.cps.toList = [n]) : c = ⟨#[n]⟩ := by
  obtain ⟨cps⟩ := c
  have e' : cps = #[n] := by
    apply Array.ext'
    exact e
  rw [e']
theorem in_any {K : PySem.W.Frag} {Z ρ : List Addr} {S S' : Sto} {H : Hp} {x y : V} {dx dy d : D} (k : Ok K Z ρ S H) (ix : Is K Z ρ H x dx) (iy : Is K Z ρ H y dy) (h : fIn dx dy S = some (d, S')) :
    S' = S ∧ ∃ b, d = .bl b ∧ ∀ (n : Bool) (Q : VK), Q (.bl (n ^^ b)) H → rInA K n x y H Q := by
  unfold fIn at h
  split at h
  · split at h
    · split at h
      · rename_i c n e
        cases h
        cases ix; cases iy
        refine ⟨rfl, _, rfl, fun m Q q => .inl ⟨n, _, ?_, rfl, q⟩⟩
        rw [str_one e]
      · cases h
    · cases h
  · split at h
    · rename_i ds e1
      obtain ⟨hc, e⟩ := of_if h
      cases e
      rw [Bool.and_eq_true] at hc
      obtain ⟨p, e3, s1⟩ := eqOk_py hc.1
      obtain ⟨p2, e4, s2⟩ := eqOk_py hc.2
      have e5 := e4
      simp only [toPy, Option.map_eq_some_iff] at e5
      obtain ⟨ps, e6, rfl⟩ := e5
      refine ⟨rfl, _, rfl, fun m Q q => .inr (.inl ⟨p, ps, vw_dp k ix e3, vw_dp k iy (by rw [e1]; exact e4), s1, s2, ?_⟩)⟩
      rw [any_deq e6 e3]
      exact q
    · rename_i ds e1
      obtain ⟨hc, e⟩ := of_if h
      cases e
      rw [Bool.and_eq_true] at hc
      obtain ⟨p, e3, s1⟩ := eqOk_py hc.1
      obtain ⟨p2, e4, s2⟩ := eqOk_py hc.2
      have e5 := e4
      simp only [toPy, Option.map_eq_some_iff] at e5
      obtain ⟨ps, e6, rfl⟩ := e5
      refine ⟨rfl, _, rfl, fun m Q q => .inr (.inr ⟨p, ps, vw_dp k ix e3, vw_dp k iy (by rw [e1]; exact e4), s1, s2, ?_⟩)⟩
      rw [any_deq e6 e3]
      exact q
    · cases h
theorem od_in (K : PySem.W.Frag) : OpD K (rInA K false) fIn := by
  intro Z ρ S S' H x y dx dy d Q k ix iy h q
  obtain ⟨rfl, b, rfl, z⟩ := in_any k ix iy h
  exact z false Q (by simpa using q.val k (.bl _))
theorem od_notIn (K : PySem.W.Frag) : OpD K (rInA K true) fNotIn := by
  intro Z ρ S S' H x y dx dy d Q k ix iy h q
  unfold fNotIn at h
  split at h
  · rename_i b S1 e
    cases h
    obtain ⟨rfl, b', e2, z⟩ := in_any k ix iy e
    cases e2
    exact z true Q (by simpa using q.val k (.bl _))
  · cases h

/-! ### is -/
def fIs : F2 := fun x y S => match x, y with
  | .bl a, .bl b => some (.bl (decide (a = b)), S)
  | .cell _, .non => some (.bl false, S)
  | .non, .non => some (.bl true, S)
  | .bl _, .non => some (.bl false, S)
  | .int _, .non => some (.bl false, S)
  | .str _, .non => some (.bl false, S)
  | .tup _, .non => some (.bl false, S)
  | .lst _, .non => some (.bl false, S)
  | _, _ => none
def fIsNot : F2 := fun x y S => match fIs x y S with
  | some (.bl b, S') => some (.bl (!b), S')
  | _ => none
def rIsA (n : Bool) : R2 := fun x y H Q => (∃ a b : Bool, x = .bl a ∧ y = .bl b ∧ Q (.bl (n ^^ decide (a = b))) H) ∨ (y = .non ∧ Q (.bl (n ^^ decide (x = .non))) H)
theorem or_is : OpR X (compareOp .Is) (rIsA false) :=
  (OpR.imp op_isBl fun _ _ _ _ ⟨a, b, e1, e2, q⟩ => ⟨a, b, e1, e2, by simpa using q⟩).or (OpR.imp op_isN fun _ _ _ _ ⟨e, q⟩ => ⟨e, by simpa using q⟩)
theorem or_isNot : OpR X (compareOp .IsNot) (rIsA true) :=
  (OpR.imp op_notBl fun _ _ _ _ ⟨a, b, e1, e2, q⟩ => ⟨a, b, e1, e2, by simpa using q⟩).or (OpR.imp op_notN fun _ _ _ _ ⟨e, q⟩ => ⟨e, by simpa using q⟩)
theorem is_any {K : PySem.W.Frag} {Z ρ : List Addr} {S S' : Sto} {H : Hp} {x y : V} {dx dy d : D} (k : Ok K Z ρ S H) (ix : Is K Z ρ H x dx) (iy : Is K Z ρ H y dy) (h : fIs dx dy S = some (d, S')) :
    S' = S ∧ ∃ b, d = .bl b ∧ ∀ (n : Bool) (Q : VK), Q (.bl (n ^^ b)) H → rIsA n x y H Q := by
  unfold fIs at h
  split at h
  · cases ix; cases iy; cases h
    exact ⟨rfl, _, rfl, fun n Q q => .inl ⟨_, _, rfl, rfl, q⟩⟩
  all_goals first
    | (cases ix; cases iy; cases h; exact ⟨rfl, _, rfl, fun n Q q => .inr ⟨rfl, by simpa using q⟩⟩)
    | cases h
theorem od_is (K : PySem.W.Frag) : OpD K (rIsA false) fIs := by
  intro Z ρ S S' H x y dx dy d Q k ix iy h q
  obtain ⟨rfl, b, rfl, z⟩ := is_any k ix iy h
  exact z false Q (by simpa using q.val k (.bl _))
theorem od_isNot (K : PySem.W.Frag) : OpD K (rIsA true) fIsNot := by
  intro Z ρ S S' H x y dx dy d Q k ix iy h q
  unfold fIsNot at h
  split at h
  · rename_i b S1 e
    cases h
    obtain ⟨rfl, b', e2, z⟩ := is_any k ix iy e
    cases e2
    exact z true Q (by simpa using q.val k (.bl _))
  · cases h
end
end Pv

/-! Pv6: calls of what is built in. -/
namespace Pv
open PySem PySem.Spec PyProof.Rows L2
section
variable {X : Cx} {K : PySem.W.Frag} {Z ρ : List Addr} {S : Sto} {H : Hp} {vs : List V} {ds : List D}
/-! ### lists of one kind -/
def ints? : List D → Option (List Int)
  | [] => some []
  | .int i :: r => (ints? r).map (i :: ·)
  | _ => none
def bools? : List D → Option (List Bool)
  | [] => some []
  | .bl i :: r => (bools? r).map (i :: ·)
  | _ => none
def strs? : List D → Option (List Str)
  | [] => some []
  | .str i :: r => (strs? r).map (i :: ·)
  | _ => none
theorem ints_vs : ∀ {vs : List V} {ds : List D} {ns : List Int}, IsAll K Z ρ H vs ds → ints? ds = some ns → vs = ns.map V.int
  | _, [], _, .nil, e => by cases e; rfl
  | _, d :: ds, ns, .cons i r, e => by
    cases i with
    | int j =>
      simp only [ints?, Option.map_eq_some_iff] at e
      obtain ⟨ms, e1, rfl⟩ := e
      rw [List.map_cons, ints_vs r e1]
    | _ => cases e
theorem bools_vs : ∀ {vs : List V} {ds : List D} {ns : List Bool}, IsAll K Z ρ H vs ds → bools? ds = some ns → vs = ns.map V.bl
  | _, [], _, .nil, e => by cases e; rfl
  | _, d :: ds, ns, .cons i r, e => by
    cases i with
    | bl j =>
      simp only [bools?, Option.map_eq_some_iff] at e
      obtain ⟨ms, e1, rfl⟩ := e
      rw [List.map_cons, bools_vs r e1]
    | _ => cases e
theorem strs_vs : ∀ {vs : List V} {ds : List D} {ns : List Str}, IsAll K Z ρ H vs ds → strs? ds = some ns → vs = ns.map V.str
  | _, [], _, .nil, e => by cases e; rfl
  | _, d :: ds, ns, .cons i r, e => by
    cases i with
    | str j =>
      simp only [strs?, Option.map_eq_some_iff] at e
      obtain ⟨ms, e1, rfl⟩ := e
      rw [List.map_cons, strs_vs r e1]
    | _ => cases e
theorem ints_map (ns : List Int) : ints? (ns.map D.int) = some ns := by
  induction ns with
  | nil => rfl
  | cons n r ih => simp [ints?, ih]
theorem bools_map (ns : List Bool) : bools? (ns.map D.bl) = some ns := by
  induction ns with
  | nil => rfl
  | cons n r ih => simp [bools?, ih]
theorem strs_map (ns : List Str) : strs? (ns.map D.str) = some ns := by
  induction ns with
  | nil => rfl
  | cons n r ih => simp [strs?, ih]
theorem IsAll.bools : ∀ (ns : List Bool), IsAll K Z ρ H (ns.map V.bl) (ns.map D.bl)
  | [] => .nil
  | n :: ns => .cons (.bl n) (IsAll.bools ns)
theorem IsAll.strs : ∀ (ns : List Str), IsAll K Z ρ H (ns.map V.str) (ns.map D.str)
  | [] => .nil
  | n :: ns => .cons (.str n) (IsAll.strs ns)
theorem is1 {d : D} (r : IsAll K Z ρ H vs [d]) : ∃ v, vs = [v] ∧ Is K Z ρ H v d := by
  cases r with
  | cons i r => cases r; exact ⟨_, rfl, i⟩
theorem is2 {d e : D} (r : IsAll K Z ρ H vs [d, e]) : ∃ v w, vs = [v, w] ∧ Is K Z ρ H v d ∧ Is K Z ρ H w e := by
  cases r with
  | cons i r =>
    cases r with
    | cons j r => cases r; exact ⟨_, _, rfl, i, j⟩

/-! ### len, abs, int, sum, all, any -/
def fLen : FA := fun xs S => match xs with
  | [x] => match vw S x with
    | .str a => if a.length ≤ 1000000 then some (.int a.length, S) else none
    | .lst ds => some (.int ds.length, S)
    | .tup ds => some (.int ds.length, S)
    | _ => none
  | _ => none
theorem cd_len (K : PySem.W.Frag) : CallD K (fun xs H Q => ∃ x n, xs = [x] ∧ LenV K x H n ∧ Q (.int n) H) fLen := by
  intro Z ρ S S' H xs ds d Q k i h q
  unfold fLen at h
  split at h
  · obtain ⟨v, rfl, iv⟩ := is1 i
    split at h
    · rename_i a e
      obtain ⟨hz, e2⟩ := of_if h
      cases e2
      cases vw_str iv e
      exact ⟨_, _, rfl, ⟨sz hz, rfl⟩, q.val k (.int _)⟩
    · rename_i es e
      cases h
      obtain ⟨a, vs, rfl, hl, r⟩ := vw_lst k iv e
      exact ⟨_, vs.length, rfl, .inl ⟨vs, hl, rfl⟩, by rw [r.length]; exact q.val k (.int _)⟩
    · rename_i es e
      cases h
      obtain ⟨a, vs, rfl, hl, r⟩ := vw_tup iv e
      exact ⟨_, vs.length, rfl, .inr ⟨vs, hl, rfl⟩, by rw [r.length]; exact q.val k (.int _)⟩
    · cases h
  · cases h
def fAbs : FA := fun xs S => match xs with
  | [.int i] => some (.int (if i < 0 then -i else i), S)
  | _ => none
theorem cd_abs (K : PySem.W.Frag) : CallD K (fun xs H Q => ∃ i, xs = [.int i] ∧ Q (.int (if i < 0 then -i else i)) H) fAbs := by
  intro Z ρ S S' H xs ds d Q k i h q
  unfold fAbs at h
  split at h
  · obtain ⟨v, rfl, iv⟩ := is1 i
    cases iv; cases h
    exact ⟨_, rfl, q.val k (.int _)⟩
  · cases h
def fInt : FA := fun xs S => match xs with
  | [.int i] => some (.int i, S)
  | [.bl b] => some (.int (if b then 1 else 0), S)
  | _ => none
theorem cd_int (K : PySem.W.Frag) : CallD K (fun xs H Q => (∃ i, xs = [.int i] ∧ Q (.int i) H) ∨ ∃ k, xs = [.bl k] ∧ Q (.int (if k then 1 else 0)) H) fInt := by
  intro Z ρ S S' H xs ds d Q k i h q
  unfold fInt at h
  split at h
  · obtain ⟨v, rfl, iv⟩ := is1 i
    cases iv; cases h
    exact .inl ⟨_, rfl, q.val k (.int _)⟩
  · obtain ⟨v, rfl, iv⟩ := is1 i
    cases iv; cases h
    exact .inr ⟨_, rfl, q.val k (.int _)⟩
  · cases h
def fSum : FA := fun xs S => match xs with
  | [x] => match vw S x with
    | .lst ds => (ints? ds).map fun ns => (.int ns.sum, S)
    | _ => none
  | _ => none
theorem cd_sum (K : PySem.W.Frag) : CallD K (rSum K) fSum := by
  intro Z ρ S S' H xs ds d Q k i h q
  unfold fSum at h
  split at h
  · obtain ⟨v, rfl, iv⟩ := is1 i
    split at h
    · rename_i es e
      rw [Option.map_eq_some_iff] at h
      obtain ⟨ns, e1, e2⟩ := h
      cases e2
      obtain ⟨a, vs, rfl, hl, r⟩ := vw_lst k iv e
      have := ints_vs r e1
      subst this
      exact ⟨a, ns, rfl, hl, q.val k (.int _)⟩
    · cases h
  · cases h
def fAll : FA := fun xs S => match xs with
  | [x] => match vw S x with
    | .lst ds => (bools? ds).map fun ns => (.bl (ns.all id), S)
    | _ => none
  | _ => none
theorem cd_all (K : PySem.W.Frag) : CallD K (rAll K) fAll := by
  intro Z ρ S S' H xs ds d Q k i h q
  unfold fAll at h
  split at h
  · obtain ⟨v, rfl, iv⟩ := is1 i
    split at h
    · rename_i es e
      rw [Option.map_eq_some_iff] at h
      obtain ⟨ns, e1, e2⟩ := h
      cases e2
      obtain ⟨a, vs, rfl, hl, r⟩ := vw_lst k iv e
      have := bools_vs r e1
      subst this
      exact ⟨a, ns, rfl, hl, q.val k (.bl _)⟩
    · cases h
  · cases h
def fAny : FA := fun xs S => match xs with
  | [x] => match vw S x with
    | .lst ds => (bools? ds).map fun ns => (.bl (ns.any id), S)
    | _ => none
  | _ => none
theorem cd_any (K : PySem.W.Frag) : CallD K (rAny K) fAny := by
  intro Z ρ S S' H xs ds d Q k i h q
  unfold fAny at h
  split at h
  · obtain ⟨v, rfl, iv⟩ := is1 i
    split at h
    · rename_i es e
      rw [Option.map_eq_some_iff] at h
      obtain ⟨ns, e1, e2⟩ := h
      cases e2
      obtain ⟨a, vs, rfl, hl, r⟩ := vw_lst k iv e
      have := bools_vs r e1
      subst this
      exact ⟨a, ns, rfl, hl, q.val k (.bl _)⟩
    · cases h
  · cases h

/-! ### min, max -/
def minI : List Int → Option Int
  | [] => none
  | n :: r => match minI r with
    | none => some n
    | some m => some (if m < n then m else n)
def maxI : List Int → Option Int
  | [] => none
  | n :: r => match maxI r with
    | none => some n
    | some m => some (if n < m then m else n)
theorem minI_is : ∀ {ns : List Int} {m : Int}, minI ns = some m → m ∈ ns ∧ ∀ y, y ∈ ns → m ≤ y
  | n :: r, m, h => by
    unfold minI at h
    cases e : minI r with
    | none =>
      rw [e] at h; cases h
      have : r = [] := by cases r with | nil => rfl | cons a b => (unfold minI at e; split at e <;> cases e)
      subst this
      exact ⟨by simp, fun y hy => by simp at hy; omega⟩
    | some m' =>
      rw [e] at h; cases h
      obtain ⟨h1, h2⟩ := minI_is e
      by_cases c : m' < n
      · rw [if_pos c]
        exact ⟨List.mem_cons_of_mem _ h1, fun y hy => by rcases List.mem_cons.mp hy with rfl | hy; omega; exact h2 y hy⟩
      · rw [if_neg c]
        exact ⟨by simp, fun y hy => by rcases List.mem_cons.mp hy with rfl | hy; omega; have := h2 y hy; omega⟩
theorem maxI_is : ∀ {ns : List Int} {m : Int}, maxI ns = some m → m ∈ ns ∧ ∀ y, y ∈ ns → y ≤ m
  | n :: r, m, h => by
    unfold maxI at h
    cases e : maxI r with
    | none =>
      rw [e] at h; cases h
      have : r = [] := by cases r with | nil => rfl | cons a b => (unfold maxI at e; split at e <;> cases e)
      subst this
      exact ⟨by simp, fun y hy => by simp at hy; omega⟩
    | some m' =>
      rw [e] at h; cases h
      obtain ⟨h1, h2⟩ := maxI_is e
      by_cases c : n < m'
      · rw [if_pos c]
        exact ⟨List.mem_cons_of_mem _ h1, fun y hy => by rcases List.mem_cons.mp hy with rfl | hy; omega; exact h2 y hy⟩
      · rw [if_neg c]
        exact ⟨by simp, fun y hy => by rcases List.mem_cons.mp hy with rfl | hy; omega; have := h2 y hy; omega⟩
def fMin : FA := fun xs S => match xs with
  | [.int i, .int j] => some (.int (if j < i then j else i), S)
  | [x] => match vw S x with
    | .lst ds => (ints? ds).bind fun ns => (minI ns).map fun m => (.int m, S)
    | _ => none
  | _ => none
def fMax : FA := fun xs S => match xs with
  | [.int i, .int j] => some (.int (if j > i then j else i), S)
  | [x] => match vw S x with
    | .lst ds => (ints? ds).bind fun ns => (maxI ns).map fun m => (.int m, S)
    | _ => none
  | _ => none
def rMinA (K : PySem.W.Frag) : List V → Hp → VK → Prop := fun xs H Q => (∃ i j, xs = [.int i, .int j] ∧ Q (.int (if j < i then j else i)) H) ∨ rMin K xs H Q
def rMaxA (K : PySem.W.Frag) : List V → Hp → VK → Prop := fun xs H Q => (∃ i j, xs = [.int i, .int j] ∧ Q (.int (if j > i then j else i)) H) ∨ rMax K xs H Q
theorem CallR.or {f : Value} {r r' : List V → Hp → VK → Prop} (h : CallR X f r) (h' : CallR X f r') : CallR X f (fun xs H Q => r xs H Q ∨ r' xs H Q) := by
  intro pins s σ H xs us Q I rx q
  rcases q with q | q
  · exact h pins s σ H xs us Q I rx q
  · exact h' pins s σ H xs us Q I rx q
theorem cr_minA (hc : X.calm = true) : CallR X (.builtin "min") (rMinA X.K) := CallR.or (call_min2 hc) (cr_min hc)
theorem cr_maxA (hc : X.calm = true) : CallR X (.builtin "max") (rMaxA X.K) := CallR.or (call_max2 hc) (cr_max hc)
theorem cd_min (K : PySem.W.Frag) : CallD K (rMinA K) fMin := by
  intro Z ρ S S' H xs ds d Q k i h q
  unfold fMin at h
  split at h
  · obtain ⟨v, w, rfl, iv, iw⟩ := is2 i
    cases iv; cases iw; cases h
    exact .inl ⟨_, _, rfl, q.val k (.int _)⟩
  · obtain ⟨v, rfl, iv⟩ := is1 i
    split at h
    · rename_i es e
      rw [Option.bind_eq_some_iff] at h
      obtain ⟨ns, e1, h⟩ := h
      rw [Option.map_eq_some_iff] at h
      obtain ⟨m, e2, h⟩ := h
      cases h
      obtain ⟨a, vs, rfl, hl, r⟩ := vw_lst k iv e
      have := ints_vs r e1
      subst this
      obtain ⟨h1, h2⟩ := minI_is e2
      refine .inr ⟨a, ns, rfl, hl, List.length_pos_of_mem h1, fun m' h1' h2' => ?_⟩
      have := h2 m' h1'
      have := h2' m h1
      have e : m' = m := by omega
      rw [e]
      exact q.val k (.int _)
    · cases h
  · cases h
theorem cd_max (K : PySem.W.Frag) : CallD K (rMaxA K) fMax := by
  intro Z ρ S S' H xs ds d Q k i h q
  unfold fMax at h
  split at h
  · obtain ⟨v, w, rfl, iv, iw⟩ := is2 i
    cases iv; cases iw; cases h
    exact .inl ⟨_, _, rfl, q.val k (.int _)⟩
  · obtain ⟨v, rfl, iv⟩ := is1 i
    split at h
    · rename_i es e
      rw [Option.bind_eq_some_iff] at h
      obtain ⟨ns, e1, h⟩ := h
      rw [Option.map_eq_some_iff] at h
      obtain ⟨m, e2, h⟩ := h
      cases h
      obtain ⟨a, vs, rfl, hl, r⟩ := vw_lst k iv e
      have := ints_vs r e1
      subst this
      obtain ⟨h1, h2⟩ := maxI_is e2
      refine .inr ⟨a, ns, rfl, hl, List.length_pos_of_mem h1, fun m' h1' h2' => ?_⟩
      have := h2 m' h1'
      have := h2' m h1
      have e : m' = m := by omega
      rw [e]
      exact q.val k (.int _)
    · cases h
  · cases h

/-! ### sorted, list, tuple -/
def sortI (ns : List Int) : List Int := ns.mergeSort fun a b => decide (a ≤ b)
theorem sortI_is {ns ms : List Int} (p : ms.Perm ns) (r : ms.Pairwise (· ≤ ·)) : ms = sortI ns := by
  have h1 : (sortI ns).Pairwise (fun a b => decide (a ≤ b) = true) := List.pairwise_mergeSort (fun a b c h1 h2 => by simp at *; omega) (fun a b => by simp; omega) ns
  have h2 : (sortI ns).Pairwise (· ≤ ·) := h1.imp (fun h => by simpa using h)
  exact List.Perm.eq_of_pairwise (fun x y _ _ h1 h2 => Int.le_antisymm h1 h2) r h2 (p.trans (List.mergeSort_perm ns _).symm)
def fSorted : FA := fun xs S => match xs with
  | [x] => match vw S x with
    | .lst ds => (ints? ds).map fun ns => (.lst ((sortI ns).map D.int), S)
    | _ => none
  | _ => none
theorem cd_sorted (K : PySem.W.Frag) : CallD K (rSortedI K) fSorted := by
  intro Z ρ S S' H xs ds d Q k i h q
  unfold fSorted at h
  split at h
  · obtain ⟨v, rfl, iv⟩ := is1 i
    split at h
    · rename_i es e
      rw [Option.map_eq_some_iff] at h
      obtain ⟨ns, e1, e2⟩ := h
      cases e2
      obtain ⟨a, vs, rfl, hl, r⟩ := vw_lst k iv e
      have := ints_vs r e1
      subst this
      refine ⟨a, ns, rfl, hl, fun ms p pm pw hp => ?_⟩
      rw [sortI_is pm pw]
      exact q.lst k (.ints _) p hp
    · cases h
  · cases h
def fList : FA := fun xs S => match xs with
  | [x] => match vw S x with
    | .lst ds => some (.lst ds, S)
    | .tup ds => some (.lst ds, S)
    | _ => none
  | _ => none
/-- a new list that is to change -/
def fListC : FA := fun xs S => match xs with
  | [x] => match vw S x with
    | .lst ds => newCell ds S
    | .tup ds => newCell ds S
    | _ => none
  | _ => none
def rListOf (K : PySem.W.Frag) : List V → Hp → VK → Prop := fun xs H Q => ∃ p ys, xs = [.ref p] ∧ (SqL K H p ys ∨ SqT K H p ys) ∧ ∀ l, H l = none → Q (.ref l) (upd H l (.lst ys))
theorem cd_list (K : PySem.W.Frag) : CallD K (rListOf K) fList := by
  intro Z ρ S S' H xs ds d Q k i h q
  unfold fList at h
  split at h
  · obtain ⟨v, rfl, iv⟩ := is1 i
    split at h
    · rename_i es e
      cases h
      obtain ⟨a, vs, rfl, hl, r⟩ := vw_lst k iv e
      exact ⟨a, vs, rfl, .inl hl, q.lst k r⟩
    · rename_i es e
      cases h
      obtain ⟨a, vs, rfl, hl, r⟩ := vw_tup iv e
      exact ⟨a, vs, rfl, .inr hl, q.lst k r⟩
    · cases h
  · cases h
theorem cd_listC (K : PySem.W.Frag) : CallD K (rListOf K) fListC := by
  intro Z ρ S S' H xs ds d Q k i h q
  unfold fListC at h
  split at h
  · obtain ⟨v, rfl, iv⟩ := is1 i
    split at h
    · rename_i es e
      obtain ⟨a, vs, rfl, hl, r⟩ := vw_lst k iv e
      exact ⟨a, vs, rfl, .inl hl, (new_cell k r h q).2⟩
    · rename_i es e
      obtain ⟨a, vs, rfl, hl, r⟩ := vw_tup iv e
      exact ⟨a, vs, rfl, .inr hl, (new_cell k r h q).2⟩
    · cases h
  · cases h
def fTuple : FA := fun xs S => match xs with
  | [x] => match vw S x with
    | .lst ds => some (.tup ds, S)
    | .tup ds => some (.tup ds, S)
    | _ => none
  | _ => none
def rTupOf (K : PySem.W.Frag) : List V → Hp → VK → Prop := fun xs H Q => ∃ p ys, xs = [.ref p] ∧ ((SqL K H p ys ∧ ∀ l, H l = none → Q (.ref l) (upd H l (.tup ys))) ∨ (SqT K H p ys ∧ Q (.ref p) H))
theorem cd_tuple (K : PySem.W.Frag) : CallD K (rTupOf K) fTuple := by
  intro Z ρ S S' H xs ds d Q k i h q
  unfold fTuple at h
  split at h
  · obtain ⟨v, rfl, iv⟩ := is1 i
    split at h
    · rename_i es e
      cases h
      obtain ⟨a, vs, rfl, hl, r⟩ := vw_lst k iv e
      exact ⟨a, vs, rfl, .inl ⟨hl, q.tup k r⟩⟩
    · rename_i es e
      cases h
      obtain ⟨a, vs, rfl, hl, r⟩ := vw_tup iv e
      exact ⟨a, vs, rfl, .inr ⟨hl, q.val k (.tup hl r)⟩⟩
    · cases h
  · cases h

/-! ### isinstance -/
def tyN : D → String
  | .non => "NoneType"
  | .bl _ => "bool"
  | .int _ => "int"
  | .str _ => "str"
  | .tup _ => "tuple"
  | .lst _ => "list"
  | .cell _ => "?"
  | .ty _ => "?"
  | .scr _ => "?"
def isiB (a b : String) : Bool := a == b || (a == "bool" && b == "int")
theorem isiB_ok : (["NoneType", "bool", "int", "str", "tuple", "list"].all fun a => ["bool", "int", "str", "tuple", "list", "dict"].all fun b => kitB a b == some (isiB a b)) = true := by decide +kernel
def fIsi : FA := fun xs S => match xs with
  | [x, .ty n] => if (["NoneType", "bool", "int", "str", "tuple", "list"].contains (tyN (vw S x)) && ["bool", "int", "str", "tuple", "list", "dict"].contains n) = true then some (.bl (isiB (tyN (vw S x)) n), S) else none
  | _ => none
theorem tyX_of {v : V} {d : D} (k : Ok K Z ρ S H) (i : Is K Z ρ H v d) (h : tyN (vw S d) ≠ "?") : TyX K H v (.type (tyN (vw S d))) := by
  cases i with
  | non => exact .base .non
  | bl b => exact .base (.bl b)
  | int b => exact .base (.int b)
  | str b => exact .base (.str b)
  | ty n => exact absurd rfl h
  | tup hq r =>
    show TyX K H _ (.type "tuple")
    rcases hq with (hq | ⟨o, hq⟩) | ⟨o, its, m, h1, h2, _⟩
    · exact .base (.tup hq)
    · exact .fTuple hq
    · exact .kTuple h1 h2
  | lst hq r => exact .base (.lst hq.1)
  | scr hq r =>
    show TyX K H _ (.type "list")
    rcases hq with ⟨o, hq⟩ | ⟨o, its, m, h1, h2, _⟩
    · exact .base (.frz hq)
    · exact .kList h1 h2
  | cell hc =>
    rename_i a n
    cases q : S[n]? with
    | none => exact absurd (by simp only [vw, q]; rfl) h
    | some c =>
      cases c with
      | lst es =>
        obtain ⟨vs, h1, r⟩ := k.cell n a _ hc q
        have : tyN (vw S (.cell n)) = "list" := by simp only [vw, q]; rfl
        rw [this]
        exact .base (.lst h1)
theorem cd_isi (K : PySem.W.Frag) : CallD K (rIsi K) fIsi := by
  intro Z ρ S S' H xs ds d Q k i h q
  unfold fIsi at h
  split at h
  · rename_i x n
    obtain ⟨v, w, rfl, iv, iw⟩ := is2 i
    obtain ⟨hc, e⟩ := of_if h
    cases e
    cases iw
    rw [Bool.and_eq_true, List.contains_iff_mem, List.contains_iff_mem] at hc
    have hk : kitB (tyN (vw S x)) n = some (isiB (tyN (vw S x)) n) := by
      have := isiB_ok
      rw [List.all_eq_true] at this
      have := this _ hc.1
      rw [List.all_eq_true] at this
      simpa using this _ hc.2
    refine ⟨_, _, _, _, _, rfl, .ty n, tyX_of k iv (fun z => ?_), kit_ty hk, q.val k (.bl _)⟩
    rw [z] at hc
    exact absurd hc.1 (by decide)
  · cases h
end
end Pv

/-! Pv7: repr, str; subscripts, slices; methods. -/
namespace Pv
open PySem PySem.Spec PyProof.Rows L2
/-! ### repr -/
mutual
def shOk : D → Bool
  | .non => true
  | .bl _ => true
  | .int i => decide (i.natAbs < 10 ^ 250)
  | .str x => x.cps.toList.all fun c => decide (c < 1114112)
  | .tup xs => shAll xs
  | .lst xs => shAll xs
  | _ => false
def shAll : List D → Bool
  | [] => true
  | x :: xs => shOk x && shAll xs
end
mutual
/-- at most so many signs -/
def rlen : D → Nat
  | .non => 4
  | .bl _ => 5
  | .int _ => 1921
  | .str x => 10 * x.length + 2
  | .tup xs => rlenAll xs + 3
  | .lst xs => rlenAll xs + 3
  | _ => 0
def rlenAll : List D → Nat
  | [] => 0
  | x :: xs => rlen x + 2 + rlenAll xs
end
def shw (d : D) : Str := match toPy d with
  | some p => p.shown
  | none => ⟨#[]⟩
mutual
theorem sh_ok : ∀ (d : D), shOk d = true → ∃ p, toPy d = some p ∧ pln d = true ∧ p.showable = true ∧ p.shown.length ≤ rlen d
  | .non, _ => ⟨_, rfl, rfl, by simp [PyData.showable], by simp only [PyData.shown]; decide⟩
  | .bl b, _ => ⟨_, rfl, rfl, by simp [PyData.showable], by simp only [PyData.shown]; cases b <;> decide⟩
  | .int i, h => by
    have h1 : i.natAbs < 10 ^ 250 := of_decide_eq_true h
    have h2 : i.natAbs.log2 < 1920 := by
      by_cases z : i.natAbs = 0
      · rw [z]; decide
      · exact (Nat.log2_lt z).mpr (Nat.lt_trans h1 (by decide))
    refine ⟨_, rfl, rfl, by simp only [PyData.showable]; exact decide_eq_true h2, ?_⟩
    simp only [PyData.shown]
    exact PyProof.Rows.int_text_len_1921 h2
  | .str x, h => by
    have h' : (x.cps.toList.all fun c => decide (c < 1114112)) = true := h
    refine ⟨_, rfl, h', by simp [PyData.showable], ?_⟩
    simp only [PyData.shown, rlen]
    refine PySem.StrLaws.reprText_len x fun c hc => ?_
    have := List.all_eq_true.mp h' c hc
    have := of_decide_eq_true this
    omega
  | .tup xs, h => by
    obtain ⟨ps, e, c, z, l, n⟩ := shAll_ok xs h
    refine ⟨.tuple ps, by simp [toPy, e], c, by simpa [PyData.showable] using z, ?_⟩
    simp only [PyData.shown, rlen]
    have := tupleText_len_le (PyData.shownAll ps)
    omega
  | .lst xs, h => by
    obtain ⟨ps, e, c, z, l, n⟩ := shAll_ok xs h
    refine ⟨.list ps, by simp [toPy, e], c, by simpa [PyData.showable] using z, ?_⟩
    simp only [PyData.shown, rlen]
    have := listText_len_le (PyData.shownAll ps)
    omega
theorem shAll_ok : ∀ (xs : List D), shAll xs = true → ∃ ps, toPyAll xs = some ps ∧ plnAll xs = true ∧ PyData.showableAll ps = true ∧ ((PyData.shownAll ps).map (·.length)).sum + 2 * (PyData.shownAll ps).length ≤ rlenAll xs ∧ (PyData.shownAll ps).length = xs.length
  | [], _ => ⟨[], rfl, rfl, by simp [PyData.showableAll], by simp [PyData.shownAll, rlenAll], by simp [PyData.shownAll]⟩
  | x :: xs, h => by
    have h' : (shOk x && shAll xs) = true := h
    rw [Bool.and_eq_true] at h'
    obtain ⟨p, e, c, z, l⟩ := sh_ok x h'.1
    obtain ⟨ps, es, cs, zs, ls, ns⟩ := shAll_ok xs h'.2
    refine ⟨p :: ps, by simp [toPyAll, e, es], by simp [plnAll, c, cs], by simp [PyData.showableAll, z, zs], ?_, by simp [PyData.shownAll, ns]⟩
    simp only [PyData.shownAll, rlenAll, List.map_cons, List.sum_cons, List.length_cons]
    omega
end
def reOk (d : D) : Bool := shOk d && decide (dep d ≤ 60) && decide (rlen d ≤ 16000000)
def fRepr : FA := fun xs S => match xs with
  | [x] => if reOk (vw S x) = true then some (.str (shw (vw S x)), S) else none
  | _ => none
def rRepr (K : PySem.W.Frag) : List V → Hp → VK → Prop := fun xs H Q => ∃ x p, xs = [x] ∧ Dp K H x p ∧ p.showable = true ∧ p.canLay0 = true ∧ p.depth ≤ 60 ∧ p.shown.length ≤ sizeLine ∧ Q (.str p.shown) H
section
variable {X : Cx}
theorem cr_repr (hg : X.A.guards = some []) (hu : X.A.units + 64 < cLine) : CallR X (.builtin "repr") (rRepr X.K) := by
  intro pins s σ H xs us Q I r h
  obtain ⟨x, p, rfl, hp, hs, hl, hd, hz, q⟩ := h
  obtain ⟨u, rfl, ru⟩ := vals1 r
  have fin : ∀ (t : Tok) (k : Nat), EP X pins σ Q (.str p.shown t) { s with toks := k } := fun t k => ⟨.str p.shown, H, I.tok k, ⟨t, rfl⟩, q⟩
  have big : ∀ {a : Addr}, u = .ref a → wpAny (model X.prog X.w) X.A (call (.builtin "repr") [u]) (EP X pins σ Q) X.xe s := fun {a} e => by
    subst e
    obtain ⟨as, hr⟩ := Dp.reads I p x _ hp ru
    refine repr_of_reads' hr hs (PyData.noDict_hsm (PyData.hasDict_of_canLay p hl)) hg (by omega) (fun _ _ e => e) (fun h' t tk kk => ?_) hz
    exact ⟨.str p.shown, H, I.kept (t' := tk) kk, ⟨t, rfl⟩, q⟩
  cases hp with
  | non => cases ru; refine PySem.P.repr_of_none ?_; have := fin s.toks (s.toks + 1); simp only [PyData.shown] at this; exact this
  | bl b => cases ru; refine PySem.P.repr_of_bool ?_; have := fin s.toks (s.toks + 1); simp only [PyData.shown] at this; exact this
  | int i =>
    obtain ⟨t, rfl⟩ := ru
    refine PySem.P.repr_of_int (by simpa [PyData.showable] using hs) ?_
    have := fin s.toks (s.toks + 1); simp only [PyData.shown] at this; exact this
  | str y =>
    obtain ⟨t, rfl⟩ := ru
    refine PySem.P.repr_of_str ?_ (by simpa only [PyData.shown] using hz)
    have := fin s.toks (s.toks + 1); simp only [PyData.shown] at this; exact this
  | lst _ _ => exact big ru
  | tup _ _ => exact big ru
theorem cd_repr (K : PySem.W.Frag) : CallD K (rRepr K) fRepr := by
  intro Z ρ S S' H xs ds d Q k i h q
  unfold fRepr at h
  split at h
  · rename_i x
    obtain ⟨v, rfl, iv⟩ := is1 i
    obtain ⟨hc, e⟩ := of_if h
    cases e
    unfold reOk at hc
    rw [Bool.and_eq_true, Bool.and_eq_true, decide_eq_true_eq, decide_eq_true_eq] at hc
    obtain ⟨p, e1, c1, s1, l1⟩ := sh_ok _ hc.1.1
    obtain ⟨p2, e2, c2, d2⟩ := toPy_of _ c1
    rw [e1] at e2
    cases e2
    refine ⟨v, p, rfl, vw_dp k iv e1, s1, c2, by omega, by rw [sizeLine_eq]; omega, ?_⟩
    have e3 : shw (vw S x) = p.shown := by unfold shw; rw [e1]
    rw [e3] at q
    exact q.val k (.str _)
  · cases h
/-- str(x) of a text, an int -/
def fStr : FA := fun xs S => match xs with
  | [.str x] => some (.str x, S)
  | [.int i] => if i.natAbs < 10 ^ 250 then some (.str (toString i), S) else none
  | _ => none
def rStrOf : List V → Hp → VK → Prop := fun xs H Q => (∃ i, xs = [.int i] ∧ i.natAbs.log2 < 1920 ∧ Q (.str (toString i)) H) ∨ ∃ a, xs = [.str a] ∧ Q (.str a) H
theorem cr_str : CallR X (.type "str") rStrOf := CallR.or call_str_int SkE.call_str_str
theorem cd_str (K : PySem.W.Frag) : CallD K rStrOf fStr := by
  intro Z ρ S S' H xs ds d Q k i h q
  unfold fStr at h
  split at h
  · obtain ⟨v, rfl, iv⟩ := is1 i
    cases iv; cases h
    exact .inr ⟨_, rfl, q.val k (.str _)⟩
  · rename_i j
    obtain ⟨v, rfl, iv⟩ := is1 i
    obtain ⟨h1, e⟩ := of_if h
    cases iv; cases e
    have h2 : j.natAbs.log2 < 1920 := by
      by_cases z : j.natAbs = 0
      · rw [z]; decide
      · exact (Nat.log2_lt z).mpr (Nat.lt_trans h1 (by decide))
    exact .inl ⟨_, rfl, h2, q.val k (.str _)⟩
  · cases h

/-! ### subscripts -/
def fIx : F2 := fun x y S => match y with
  | .int i => match vw S x with
    | .lst ds => (atI ds i).map fun d => (d, S)
    | .tup ds => (atI ds i).map fun d => (d, S)
    | .str z => if z.length ≤ 1000000 then (atI z.cps.toList i).map fun c => (.str ⟨#[c]⟩, S) else none
    | _ => none
  | _ => none
theorem atI_is {K : PySem.W.Frag} {Z ρ : List Addr} {H : Hp} {vs : List V} {ds : List D} {i : Int} {d : D} (r : IsAll K Z ρ H vs ds) (e : atI ds i = some d) : ∃ v, atI vs i = some v ∧ Is K Z ρ H v d := by
  unfold atI at e ⊢
  rw [r.length]
  cases q : ixN ds.length i with
  | none => rw [q] at e; cases e
  | some j => rw [q] at e; exact r.get e
theorem od_ix (K : PySem.W.Frag) : OpD K (rIx K) fIx := by
  intro Z ρ S S' H x y dx dy d Q k ix iy h q
  unfold fIx at h
  split at h
  · cases iy
    split at h
    · rename_i es e
      rw [Option.map_eq_some_iff] at h
      obtain ⟨d', e1, e2⟩ := h
      cases e2
      obtain ⟨a, vs, rfl, hl, r⟩ := vw_lst k ix e
      obtain ⟨v, e3, iv⟩ := atI_is r e1
      exact .inl ⟨a, vs, _, v, rfl, rfl, hl, e3, q.val k iv⟩
    · rename_i es e
      rw [Option.map_eq_some_iff] at h
      obtain ⟨d', e1, e2⟩ := h
      cases e2
      obtain ⟨a, vs, rfl, hl, r⟩ := vw_tup ix e
      obtain ⟨v, e3, iv⟩ := atI_is r e1
      exact .inr (.inl ⟨a, vs, _, v, rfl, rfl, hl, e3, q.val k iv⟩)
    · rename_i z e
      by_cases hz : z.length ≤ 1000000
      · rw [if_pos hz, Option.map_eq_some_iff] at h
        obtain ⟨c, e1, e2⟩ := h
        cases e2
        cases vw_str ix e
        exact .inr (.inr ⟨z, _, c, rfl, rfl, sz hz, e1, q.val k (.str _)⟩)
      · rw [if_neg hz] at h; cases h
    · cases h
  · cases h
variable {W : Wsh X.K} {a b e : Expr} {ma mb : EM} {pos : Pos}
theorem em_ix (ha : PEm X W a ma) (hb : PEm X W b mb) (hs : PlainIx b) : PEm X W (.Subscript a b pos) (mBin fIx ma mb) :=
  PE.imp (pe_ix ix_seq ha hb hs) fun _ _ _ h => tOp_of (od_ix _) h
end
end Pv

/-! Pv8: slices, methods. -/
namespace Pv
open PySem PySem.Spec PyProof.Rows L2
abbrev OM := En → M (Option Int)
def PtO (K : PySem.W.Frag) (Z ρ : List Addr) (H : Hp) (Q : Option Int → Hp → Prop) (b : Option Int) (S : Sto) : Prop := ∀ ρ' H', Ext ρ H ρ' H' → Ok K Z ρ' S H' → Q b H'
def tO (K : PySem.W.Frag) (W : Wsh K) (m : OM) : TO := fun σ H Q => ∃ Z ρ S ds, At K Z ρ S H σ ds ∧ MP (m ds S) (PtO K Z ρ H Q) (W.P Z ρ H σ ds)
section
variable {X : Cx} {W : Wsh X.K} {e : Expr} {lo hi : Option Expr} {ma : EM} {ml mh : OM} {pos p2 : Pos}
def POm (X : Cx) (W : Wsh X.K) (e : Option Expr) (m : OM) : Prop := PO X e (tO X.K W m)
theorem PO.imp {e : Option Expr} {t t' : TO} (h : PO X e t) (i : ∀ σ H Q, t' σ H Q → t σ H Q) : PO X e t' := ⟨fun pins s σ H Q I q => h.run pins s σ H Q I (i σ H Q q)⟩
def mNoPart : OM := fun _ => pure none
def mPart (ma : EM) : OM := fun ds => ma ds >>= fun x => match x with
  | .int i => pure (some i)
  | _ => stuck
theorem om_none : POm X W none mNoPart := PO.imp po_none fun σ H Q ⟨Z, ρ, S, ds, t, h⟩ => (MP.pure h : PtO _ _ _ _ _ _ _) ρ H Ext.refl t.ok
theorem om_some (h : PEm X W e ma) : POm X W (some e) (mPart ma) := PO.imp (po_some h) fun σ H Q ⟨Z, ρ, S, ds, t, h⟩ => by
  refine tE_bind t h fun d S1 ρ1 H1 v e1 t1 i q => ?_
  cases i with
  | int b => exact ⟨b, rfl, (MP.pure q : PtO _ _ _ _ _ _ _) ρ1 H1 e1 t1.ok⟩
  | _ => exact q.elim
theorem tO_bind {σ : L2.St} {H : Hp} {ds : En} {Z ρ : List Addr} {S : Sto} {α : Type} {g : Option Int → M α} {P : α → Sto → Prop} (t : At X.K Z ρ S H σ ds) (h : MP ((ml ds >>= g) S) P (W.P Z ρ H σ ds))
    {R : Option Int → Hp → Prop} (k : ∀ d S1 ρ1 H1, Ext ρ H ρ1 H1 → At X.K Z ρ1 S1 H1 σ ds → MP (g d S1) P (W.P Z ρ1 H1 σ ds) → R d H1) : tO X.K W ml σ H R :=
  ⟨Z, ρ, S, ds, t, (MP.bind h).imp (fun d S1 q ρ1 H1 e1 k1 => k d S1 ρ1 H1 e1 (t.up e1 k1) (q.imp (fun _ _ z => z) fun _ _ _ z => W.up t.ok e1 z)) fun _ _ _ z => z⟩
def cutL {α : Type} (xs : List α) (lo hi : Option Int) : List α := (xs.drop (HT.sIx xs.length 0 lo)).take (HT.sIx xs.length xs.length hi - HT.sIx xs.length 0 lo)
def fSl (lo hi : Option Int) : F1 := fun x S => match vw S x with
  | .lst ds => some (.lst (cutL ds lo hi), S)
  | .tup ds => some (.tup (cutL ds lo hi), S)
  | .str z => if z.length ≤ 1000000 then some (.str ⟨(cutL z.cps.toList lo hi).toArray⟩, S) else none
  | _ => none
def mSl (ma : EM) (ml mh : OM) : EM := fun ds => ma ds >>= fun x => ml ds >>= fun l => mh ds >>= fun h => M.lift (fSl l h x)
def rSlAll (K : PySem.W.Frag) : V → Option Int → Option Int → Hp → VK → Prop := fun x lo hi H Q => rSlL K x lo hi H Q ∨ rSlA K x lo hi H Q ∨ rSlS x lo hi H Q
theorem cut_all {K : PySem.W.Frag} {Z ρ : List Addr} {H : Hp} {vs : List V} {ds : List D} (r : IsAll K Z ρ H vs ds) (lo hi : Option Int) : IsAll K Z ρ H (cutV vs lo hi) (cutL ds lo hi) := by
  unfold cutV cutL
  rw [r.length]
  exact (r.drop _).take _
theorem em_sl (he : PEm X W e ma) (hl : POm X W lo ml) (hu : POm X W hi mh) : PEm X W (.Subscript e (.Slice lo hi none p2) pos) (mSl ma ml mh) :=
  PE.imp (pe_slice (sl_list.or (sl_tupA.or sl_str)) he hl hu) fun σ H Q ⟨Z, ρ, S, ds, t, h⟩ => by
    refine tE_bind t h fun d S1 ρ1 H1 v e1 t1 i q1 => ?_
    refine tO_bind t1 q1 fun l S2 ρ2 H2 e2 t2 q2 => ?_
    refine tO_bind t2 q2 fun u S3 ρ3 H3 e3 t3 q3 => ?_
    obtain ⟨d', S4, e4, q4⟩ := MP.lift q3
    have i3 := i.mono t1.ok (e2.trans e3)
    have q5 := q4.up ((e1.trans e2).trans e3)
    unfold fSl at e4
    split at e4
    · rename_i es e5
      cases e4
      obtain ⟨a, vs, rfl, hl, r⟩ := vw_lst t3.ok i3 e5
      exact .inl ⟨a, vs, rfl, hl, q5.lst t3.ok (cut_all r l u)⟩
    · rename_i es e5
      cases e4
      obtain ⟨a, vs, rfl, hl, r⟩ := vw_tup i3 e5
      refine .inr (.inl ⟨a, vs, rfl, hl, fun hw => ?_, fun _ => q5.tup t3.ok (cut_all r l u)⟩)
      have ec : cutL es l u = es := by
        unfold cutL
        rw [← r.length, hw.1, hw.2, List.drop_zero, Nat.sub_zero, r.length, List.take_length]
      rw [ec] at q5
      exact q5.val t3.ok (.tup hl r)
    · rename_i z e5
      obtain ⟨hz, e6⟩ := of_if e4
      cases e6
      cases vw_str i3 e5
      refine .inr (.inr ⟨z, rfl, sz hz, ?_⟩)
      have ez : cutS z l u = ⟨(cutL z.cps.toList l u).toArray⟩ := by
        unfold cutS cutL
        have : z.cps.toList.length = z.length := by simp [Str.length]
        rw [this]
      rw [ez]
      exact q5.val t3.ok (.str _)
    · cases e4
end
/-! ### methods of texts -/
section
variable {X : Cx} {W : Wsh X.K} {o e : Expr} {es : List Expr} {ma : EM} {ms : AM} {name : Str} {apos cpos : Pos} {T id : String} {r : V → List V → Hp → VK → Prop}
abbrev FM := D → List D → Sto → Option (D × Sto)
def mMeth (f : FM) (ma : EM) (ms : AM) : EM := fun ds => ma ds >>= fun x => ms ds >>= fun xs => M.lift (f x xs)
def mMeth0 (f : FM) (ma : EM) : EM := fun ds => ma ds >>= fun x => M.lift (f x [])
/-- a method by values: the receiver's type, what it does -/
structure MethD (K : PySem.W.Frag) (T : String) (r : V → List V → Hp → VK → Prop) (f : FM) : Prop where
  ty : ∀ (Z ρ : List Addr) (S : Sto) (H : Hp) (x : V) (dx : D), Ok K Z ρ S H → Is K Z ρ H x dx → (∃ S1 xs d S', f dx xs S1 = some (d, S')) → tyV K T x H
  run : ∀ (Z ρ : List Addr) (S S' : Sto) (H : Hp) (x : V) (dx : D) (xs : List V) (ds : List D) (d : D) (Q : VK), Ok K Z ρ S H → Is K Z ρ H x dx → IsAll K Z ρ H xs ds → f dx ds S = some (d, S') → Pt K Z ρ H Q d S' → r x xs H Q
theorem MP.some {α β : Type} {m : M α} {f : α → M β} {S : Sto} {P : β → Sto → Prop} (h : MP (m S) (fun a S1 => MP (f a S1) P fun _ _ _ => False) fun _ _ _ => False) : ∃ a S1 b S2, m S = .ok a S1 ∧ f a S1 = .ok b S2 := by
  cases e : m S with
  | ok a S1 =>
    rw [e] at h
    have h' : MP (f a S1) P _ := h
    cases e2 : f a S1 with
    | ok b S2 => exact ⟨a, S1, b, S2, rfl, e2⟩
    | exc c v S2 => rw [e2] at h'; exact h'.elim
    | no => rw [e2] at h'; exact h'.elim
  | exc c v S1 => rw [e] at h; exact h.elim
  | no => rw [e] at h; exact h.elim
/-- texts' methods: the type is told by the receiver alone -/
theorem em_methS {f : FM} (pa : PlainAttrs "str") (slot : Slot "str" name id) (hty : typeOf (.builtin id) = pure (.type "method_descriptor")) (hm : MtR X id r)
    (hf : ∀ (Z ρ : List Addr) (S S' : Sto) (H : Hp) (x : Str) (xs : List V) (ds : List D) (d : D) (Q : VK), Ok X.K Z ρ S H → IsAll X.K Z ρ H xs ds → f (.str x) ds S = some (d, S') → Pt X.K Z ρ H Q d S' → r (.str x) xs H Q)
    (ho : PEm X W o ma) (ha : PAm X W (e :: es) ms)
    (hbase : attributeBase o name X.env (eval o X.env) = eval o X.env := by rfl)
    (hfew : ((backTo cpos (starEach (e :: es) X.env)).all (fun x => !x.1) && (backToKw cpos (keywordEach [] X.env)).all (fun x => x.1.isSome)
      && decide ((e :: es).length + ([] : List Keyword).length + (if ([] : List Keyword).isEmpty then 0 else 1) < 30)) = true := by rfl)
    (hline : (apos.endLine == cpos.line) = true := by rfl) (hs : starEach (e :: es) X.env = (false, eval e X.env) :: starEach es X.env := by rfl) (hplain : (backTo cpos (starEach es X.env)).any (·.1) = false := by rfl) :
    PEm X W (.Call (.Attribute o name apos) (e :: es) [] cpos) (fun ds => ma ds >>= fun x => match x with
      | .str z => ms ds >>= fun xs => M.lift (f (.str z) xs)
      | _ => stuck) :=
  PE.imp (pe_bm pa slot hty hm ho ha hbase hfew hline hs hplain) fun σ H Q ⟨Z, ρ, S, ds, t, h⟩ => by
    refine tE_bind t h fun d S1 ρ1 H1 v e1 t1 i q1 => ?_
    cases i with
    | str z =>
      refine ⟨rfl, tA_bind t1 q1 fun xs S2 ρ2 H2 vs e2 t2 i2 q2 => ?_⟩
      obtain ⟨d', S4, e4, q4⟩ := MP.lift q2
      exact hf Z ρ2 S2 S4 H2 z vs xs d' Q t2.ok i2 e4 (q4.up (e1.trans e2))
    | _ => exact q1.elim
theorem em_methS0 {f : FM} (pa : PlainAttrs "str") (slot : Slot "str" name id) (hty : typeOf (.builtin id) = pure (.type "method_descriptor")) (hm : MtR X id r)
    (hf : ∀ (Z ρ : List Addr) (S S' : Sto) (H : Hp) (x : Str) (d : D) (Q : VK), Ok X.K Z ρ S H → f (.str x) [] S = some (d, S') → Pt X.K Z ρ H Q d S' → r (.str x) [] H Q)
    (ho : PEm X W o ma)
    (hbase : attributeBase o name X.env (eval o X.env) = eval o X.env := by rfl) (hline : (apos.endLine == cpos.line) = true := by rfl) :
    PEm X W (.Call (.Attribute o name apos) [] [] cpos) (fun ds => ma ds >>= fun x => match x with
      | .str z => M.lift (f (.str z) [])
      | _ => stuck) :=
  PE.imp (pe_bm0 pa slot hty hm ho hbase hline) fun σ H Q ⟨Z, ρ, S, ds, t, h⟩ => by
    refine tE_bind t h fun d S1 ρ1 H1 v e1 t1 i q1 => ?_
    cases i with
    | str z =>
      obtain ⟨d', S4, e4, q4⟩ := MP.lift q1
      exact ⟨rfl, hf Z ρ1 S1 S4 H1 z d' Q t1.ok e4 (q4.up e1)⟩
    | _ => exact q1.elim
/-- methods that change a list -/
theorem em_methL {f : FM} (pa : PlainAttrs "list") (slot : Slot "list" name id) (hty : typeOf (.builtin id) = pure (.type "method_descriptor")) (hm : MtR X id r)
    (hf : ∀ (Z ρ : List Addr) (S S' : Sto) (H : Hp) (k : Nat) (x : V) (xs : List V) (ds : List D) (d : D) (Q : VK), Ok X.K Z ρ S H → Is X.K Z ρ H x (.cell k) → IsAll X.K Z ρ H xs ds → f (.cell k) ds S = some (d, S') → Pt X.K Z ρ H Q d S' → r x xs H Q)
    (ho : PEm X W o ma) (ha : PAm X W (e :: es) ms)
    (hbase : attributeBase o name X.env (eval o X.env) = eval o X.env := by rfl)
    (hfew : ((backTo cpos (starEach (e :: es) X.env)).all (fun x => !x.1) && (backToKw cpos (keywordEach [] X.env)).all (fun x => x.1.isSome)
      && decide ((e :: es).length + ([] : List Keyword).length + (if ([] : List Keyword).isEmpty then 0 else 1) < 30)) = true := by rfl)
    (hline : (apos.endLine == cpos.line) = true := by rfl) (hs : starEach (e :: es) X.env = (false, eval e X.env) :: starEach es X.env := by rfl) (hplain : (backTo cpos (starEach es X.env)).any (·.1) = false := by rfl) :
    PEm X W (.Call (.Attribute o name apos) (e :: es) [] cpos) (fun ds => ma ds >>= fun x => match x with
      | .cell k => ms ds >>= fun xs => M.lift (f (.cell k) xs)
      | _ => stuck) :=
  PE.imp (pe_bm pa slot hty hm ho ha hbase hfew hline hs hplain) fun σ H Q ⟨Z, ρ, S, ds, t, h⟩ => by
    refine tE_bind t h fun d S1 ρ1 H1 v e1 t1 i q1 => ?_
    cases i with
    | cell hc =>
      rename_i a k
      obtain ⟨k', c, h1, h2, h3⟩ := t1.ok.at (List.mem_of_getElem? hc)
      obtain ⟨ws, h4⟩ := h3.lst
      refine ⟨.inl ⟨rfl, ws, SqL.of h4⟩, tA_bind t1 q1 fun xs S2 ρ2 H2 vs e2 t2 i2 q2 => ?_⟩
      obtain ⟨d', S4, e4, q4⟩ := MP.lift q2
      exact hf Z ρ2 S2 S4 H2 k (.ref a) vs xs d' Q t2.ok (.cell (e2.get hc)) i2 e4 (q4.up (e1.trans e2))
    | _ => exact q1.elim
theorem em_methL0 {f : FM} (pa : PlainAttrs "list") (slot : Slot "list" name id) (hty : typeOf (.builtin id) = pure (.type "method_descriptor")) (hm : MtR X id r)
    (hf : ∀ (Z ρ : List Addr) (S S' : Sto) (H : Hp) (k : Nat) (x : V) (d : D) (Q : VK), Ok X.K Z ρ S H → Is X.K Z ρ H x (.cell k) → f (.cell k) [] S = some (d, S') → Pt X.K Z ρ H Q d S' → r x [] H Q)
    (ho : PEm X W o ma)
    (hbase : attributeBase o name X.env (eval o X.env) = eval o X.env := by rfl) (hline : (apos.endLine == cpos.line) = true := by rfl) :
    PEm X W (.Call (.Attribute o name apos) [] [] cpos) (fun ds => ma ds >>= fun x => match x with
      | .cell k => M.lift (f (.cell k) [])
      | _ => stuck) :=
  PE.imp (pe_bm0 pa slot hty hm ho hbase hline) fun σ H Q ⟨Z, ρ, S, ds, t, h⟩ => by
    refine tE_bind t h fun d S1 ρ1 H1 v e1 t1 i q1 => ?_
    cases i with
    | cell hc =>
      rename_i a k
      obtain ⟨k', c, h1, h2, h3⟩ := t1.ok.at (List.mem_of_getElem? hc)
      obtain ⟨ws, h4⟩ := h3.lst
      obtain ⟨d', S4, e4, q4⟩ := MP.lift q1
      exact ⟨.inl ⟨rfl, ws, SqL.of h4⟩, hf Z ρ1 S1 S4 H1 k (.ref a) d' Q t1.ok (.cell hc) e4 (q4.up e1)⟩
    | _ => exact q1.elim
end
end Pv

/-! Pv9: methods by name; statements. -/
namespace Pv
open PySem PySem.Spec PyProof.Rows L2
/-! ### texts' methods -/
def fStarts : FM := fun x xs S => match x, xs with
  | .str a, [.str b] => some (.bl (Txt.startswith a b), S)
  | .str a, [.str b, .int i] => some (.bl (Txt.startswith3 a b i), S)
  | _, _ => none
def fEnds : FM := fun x xs S => match x, xs with
  | .str a, [.str b] => some (.bl (Txt.endswith a b), S)
  | _, _ => none
def fUpper : FM := fun x xs S => match x, xs with
  | .str a, [] => if a.length ≤ 1000000 then some (.str (Txt.upper a), S) else none
  | _, _ => none
def fJoin : FM := fun x xs S => match x, xs with
  | .str a, [y] => match vw S y with
    | .lst ds => (strs? ds).bind fun ys => if (ys.map (·.length)).sum + ys.length * a.length ≤ 1000000 then some (.str (Txt.join a ys), S) else none
    | .tup ds => (strs? ds).bind fun ys => if (ys.map (·.length)).sum + ys.length * a.length ≤ 1000000 then some (.str (Txt.join a ys), S) else none
    | _ => none
  | _, _ => none
section
variable {X : Cx} {W : Wsh X.K} {o e : Expr} {es : List Expr} {ma mb : EM} {ms : AM} {apos cpos : Pos}
/-- the receiver's text, then the rest -/
def mStrM (f : FM) (ma : EM) (ms : AM) : EM := fun ds => ma ds >>= fun x => match x with
  | .str z => ms ds >>= fun xs => M.lift (f (.str z) xs)
  | _ => stuck
def mStrM0 (f : FM) (ma : EM) : EM := fun ds => ma ds >>= fun x => match x with
  | .str z => M.lift (f (.str z) [])
  | _ => stuck
def mCellM (f : FM) (ma : EM) (ms : AM) : EM := fun ds => ma ds >>= fun x => match x with
  | .cell k => ms ds >>= fun xs => M.lift (f (.cell k) xs)
  | _ => stuck
def mCellM0 (f : FM) (ma : EM) : EM := fun ds => ma ds >>= fun x => match x with
  | .cell k => M.lift (f (.cell k) [])
  | _ => stuck
theorem em_starts (ho : PEm X W o ma) (ha : PAm X W (e :: es) ms)
    (hbase : attributeBase o "startswith" X.env (eval o X.env) = eval o X.env := by rfl)
    (hfew : ((backTo cpos (starEach (e :: es) X.env)).all (fun x => !x.1) && (backToKw cpos (keywordEach [] X.env)).all (fun x => x.1.isSome)
      && decide ((e :: es).length + ([] : List Keyword).length + (if ([] : List Keyword).isEmpty then 0 else 1) < 30)) = true := by rfl)
    (hline : (apos.endLine == cpos.line) = true := by rfl) (hs : starEach (e :: es) X.env = (false, eval e X.env) :: starEach es X.env := by rfl) (hplain : (backTo cpos (starEach es X.env)).any (·.1) = false := by rfl) :
    PEm X W (.Call (.Attribute o "startswith" apos) (e :: es) [] cpos) (mStrM fStarts ma ms) := by
  refine em_methS (f := fStarts) PySem.F.plainAttrs_str PySem.F.slot_str_startswith PySem.F.type_str_startswith (MtR.or mt_startswith mt_startswith3) (fun Z ρ S S' H x xs ds d Q k i h q => ?_) ho ha hbase hfew hline hs hplain
  unfold fStarts at h
  split at h
  · rename_i x1 x2 a b e1
    cases e1
    obtain ⟨v, rfl, iv⟩ := is1 i
    cases iv; cases h
    exact .inl ⟨_, _, rfl, rfl, q.val k (.bl _)⟩
  · rename_i x1 x2 a b j e1
    cases e1
    obtain ⟨v, w, rfl, iv, iw⟩ := is2 i
    cases iv; cases iw; cases h
    exact .inr ⟨_, _, _, rfl, rfl, q.val k (.bl _)⟩
  · cases h
theorem em_ends (ho : PEm X W o ma) (ha : PAm X W (e :: es) ms)
    (hbase : attributeBase o "endswith" X.env (eval o X.env) = eval o X.env := by rfl)
    (hfew : ((backTo cpos (starEach (e :: es) X.env)).all (fun x => !x.1) && (backToKw cpos (keywordEach [] X.env)).all (fun x => x.1.isSome)
      && decide ((e :: es).length + ([] : List Keyword).length + (if ([] : List Keyword).isEmpty then 0 else 1) < 30)) = true := by rfl)
    (hline : (apos.endLine == cpos.line) = true := by rfl) (hs : starEach (e :: es) X.env = (false, eval e X.env) :: starEach es X.env := by rfl) (hplain : (backTo cpos (starEach es X.env)).any (·.1) = false := by rfl) :
    PEm X W (.Call (.Attribute o "endswith" apos) (e :: es) [] cpos) (mStrM fEnds ma ms) := by
  refine em_methS (f := fEnds) PySem.F.plainAttrs_str PySem.F.slot_str_endswith PySem.F.type_str_endswith mt_endswith (fun Z ρ S S' H x xs ds d Q k i h q => ?_) ho ha hbase hfew hline hs hplain
  unfold fEnds at h
  split at h
  · rename_i x1 x2 a b e1
    cases e1
    obtain ⟨v, rfl, iv⟩ := is1 i
    cases iv; cases h
    exact ⟨_, _, rfl, rfl, q.val k (.bl _)⟩
  · cases h
theorem em_join (ho : PEm X W o ma) (ha : PAm X W (e :: es) ms)
    (hbase : attributeBase o "join" X.env (eval o X.env) = eval o X.env := by rfl)
    (hfew : ((backTo cpos (starEach (e :: es) X.env)).all (fun x => !x.1) && (backToKw cpos (keywordEach [] X.env)).all (fun x => x.1.isSome)
      && decide ((e :: es).length + ([] : List Keyword).length + (if ([] : List Keyword).isEmpty then 0 else 1) < 30)) = true := by rfl)
    (hline : (apos.endLine == cpos.line) = true := by rfl) (hs : starEach (e :: es) X.env = (false, eval e X.env) :: starEach es X.env := by rfl) (hplain : (backTo cpos (starEach es X.env)).any (·.1) = false := by rfl) :
    PEm X W (.Call (.Attribute o "join" apos) (e :: es) [] cpos) (mStrM fJoin ma ms) := by
  refine em_methS (f := fJoin) PySem.F.plainAttrs_str PySem.F.slot_str_join PySem.F.type_str_join mt_join (fun Z ρ S S' H x xs ds d Q k i h q => ?_) ho ha hbase hfew hline hs hplain
  unfold fJoin at h
  split at h
  · rename_i x1 x2 a y e1
    cases e1
    obtain ⟨v, rfl, iv⟩ := is1 i
    split at h
    · rename_i es e2
      rw [Option.bind_eq_some_iff] at h
      obtain ⟨ys, e3, h⟩ := h
      obtain ⟨hz, e4⟩ := of_if h
      cases e4
      obtain ⟨p, vs, rfl, hl, r⟩ := vw_lst k iv e2
      have := strs_vs r e3
      subst this
      exact ⟨_, p, ys, rfl, rfl, .inl hl, by omega, q.val k (.str _)⟩
    · rename_i es e2
      rw [Option.bind_eq_some_iff] at h
      obtain ⟨ys, e3, h⟩ := h
      obtain ⟨hz, e4⟩ := of_if h
      cases e4
      obtain ⟨p, vs, rfl, hl, r⟩ := vw_tup iv e2
      have := strs_vs r e3
      subst this
      exact ⟨_, p, ys, rfl, rfl, .inr hl, by omega, q.val k (.str _)⟩
    · cases h
  · cases h
theorem em_upper (ho : PEm X W o ma)
    (hbase : attributeBase o "upper" X.env (eval o X.env) = eval o X.env := by rfl) (hline : (apos.endLine == cpos.line) = true := by rfl) :
    PEm X W (.Call (.Attribute o "upper" apos) [] [] cpos) (mStrM0 fUpper ma) := by
  refine em_methS0 (f := fUpper) PySem.F.plainAttrs_str PySem.F.slot_str_upper PySem.F.type_str_upper mt_upper (fun Z ρ S S' H x d Q k h q => ?_) ho hbase hline
  unfold fUpper at h
  split at h
  · rename_i x1 x2 a e1 e9
    cases e1
    obtain ⟨hz, e4⟩ := of_if h
    cases e4
    exact ⟨_, rfl, rfl, by omega, q.val k (.str _)⟩
  · rename_i hno
    exact (hno _ rfl rfl).elim
/-! ### lists that change -/
def fAppend : FM := fun x xs S => match x, xs with
  | .cell k, [y] => match S[k]? with
    | some (.lst ds) => if ds.length < 1000000 then some (.non, S.set k (.lst (ds ++ [y]))) else none
    | _ => none
  | _, _ => none
theorem em_append (ho : PEm X W o ma) (ha : PAm X W (e :: es) ms)
    (hbase : attributeBase o "append" X.env (eval o X.env) = eval o X.env := by rfl)
    (hfew : ((backTo cpos (starEach (e :: es) X.env)).all (fun x => !x.1) && (backToKw cpos (keywordEach [] X.env)).all (fun x => x.1.isSome)
      && decide ((e :: es).length + ([] : List Keyword).length + (if ([] : List Keyword).isEmpty then 0 else 1) < 30)) = true := by rfl)
    (hline : (apos.endLine == cpos.line) = true := by rfl) (hs : starEach (e :: es) X.env = (false, eval e X.env) :: starEach es X.env := by rfl) (hplain : (backTo cpos (starEach es X.env)).any (·.1) = false := by rfl) :
    PEm X W (.Call (.Attribute o "append" apos) (e :: es) [] cpos) (mCellM fAppend ma ms) := by
  refine em_methL (f := fAppend) PySem.F.plainAttrs_list PySem.F.slot_list_append PySem.F.type_list_append mt_append (fun Z ρ S S' H n x xs ds d Q k ix i h q => ?_) ho ha hbase hfew hline hs hplain
  unfold fAppend at h
  split at h
  · rename_i x1 x2 m y e1
    cases e1
    obtain ⟨v, rfl, iv⟩ := is1 i
    cases ix with
    | cell hc =>
      rename_i a
      split at h
      · rename_i es e2
        obtain ⟨hz, e3⟩ := of_if h
        cases e3
        obtain ⟨vs, h1, r⟩ := k.cell n a _ hc e2
        obtain ⟨k2, e2⟩ := k.write hc (r.append (.cons iv .nil))
        exact ⟨a, vs, v, rfl, rfl, h1, by rw [r.length, sizeLine_eq]; omega, q _ _ _ e2 k2 .non⟩
      · cases h
  · cases h
def fPop0 : FM := fun x xs S => match x, xs with
  | .cell k, [] => match S[k]? with
    | some (.lst ds) => match ds[ds.length - 1]? with
      | some d => some (d, S.set k (.lst ds.dropLast))
      | none => none
    | _ => none
  | _, _ => none
theorem IsAll.dropLast {K : PySem.W.Frag} {Z ρ : List Addr} {H : Hp} {vs : List V} {ds : List D} (r : IsAll K Z ρ H vs ds) : IsAll K Z ρ H vs.dropLast ds.dropLast := by
  rw [List.dropLast_eq_take, List.dropLast_eq_take, r.length]
  exact r.take _
theorem IsAll.eraseIdx {K : PySem.W.Frag} {Z ρ : List Addr} {H : Hp} {vs : List V} {ds : List D} (r : IsAll K Z ρ H vs ds) (i : Nat) : IsAll K Z ρ H (vs.eraseIdx i) (ds.eraseIdx i) := by
  rw [List.eraseIdx_eq_take_drop_succ, List.eraseIdx_eq_take_drop_succ]
  exact (r.take _).append (r.drop _)
theorem em_pop0 (ho : PEm X W o ma)
    (hbase : attributeBase o "pop" X.env (eval o X.env) = eval o X.env := by rfl) (hline : (apos.endLine == cpos.line) = true := by rfl) :
    PEm X W (.Call (.Attribute o "pop" apos) [] [] cpos) (mCellM0 fPop0 ma) := by
  refine em_methL0 (f := fPop0) PySem.F.plainAttrs_list PySem.F.slot_list_pop PySem.F.type_list_pop mt_pop (fun Z ρ S S' H n x d Q k ix h q => ?_) ho hbase hline
  unfold fPop0 at h
  split at h
  · rename_i x1 x2 m e1 e9
    cases e1
    cases ix with
    | cell hc =>
      rename_i a
      split at h
      · rename_i es e2
        split at h
        · rename_i d' e3
          cases h
          obtain ⟨vs, h1, r⟩ := k.cell n a _ hc e2
          obtain ⟨k2, e4⟩ := k.write hc r.dropLast
          obtain ⟨v, e5, iv⟩ := r.get e3
          exact ⟨a, vs, v, rfl, rfl, h1, by rw [r.length]; exact e5, q _ _ _ e4 k2 (iv.mono k e4)⟩
        · cases h
      · cases h
  · rename_i hno
    exact (hno _ rfl rfl).elim
def fPopAt : FM := fun x xs S => match x, xs with
  | .cell k, [.int i] => match S[k]? with
    | some (.lst ds) => if 0 ≤ i ∧ i < ds.length ∧ ds.length ≤ 1000000 then match ds[i.toNat]? with
        | some d => some (d, S.set k (.lst (ds.eraseIdx i.toNat)))
        | none => none
      else none
    | _ => none
  | _, _ => none
theorem em_popAt (ho : PEm X W o ma) (ha : PAm X W (e :: es) ms)
    (hbase : attributeBase o "pop" X.env (eval o X.env) = eval o X.env := by rfl)
    (hfew : ((backTo cpos (starEach (e :: es) X.env)).all (fun x => !x.1) && (backToKw cpos (keywordEach [] X.env)).all (fun x => x.1.isSome)
      && decide ((e :: es).length + ([] : List Keyword).length + (if ([] : List Keyword).isEmpty then 0 else 1) < 30)) = true := by rfl)
    (hline : (apos.endLine == cpos.line) = true := by rfl) (hs : starEach (e :: es) X.env = (false, eval e X.env) :: starEach es X.env := by rfl) (hplain : (backTo cpos (starEach es X.env)).any (·.1) = false := by rfl) :
    PEm X W (.Call (.Attribute o "pop" apos) (e :: es) [] cpos) (mCellM fPopAt ma ms) := by
  refine em_methL (f := fPopAt) PySem.F.plainAttrs_list PySem.F.slot_list_pop PySem.F.type_list_pop mt_popAt (fun Z ρ S S' H n x xs ds d Q k ix i h q => ?_) ho ha hbase hfew hline hs hplain
  unfold fPopAt at h
  split at h
  · rename_i x1 x2 m j e1
    cases e1
    obtain ⟨v, rfl, iv⟩ := is1 i
    cases iv
    cases ix with
    | cell hc =>
      rename_i a
      split at h
      · rename_i es e2
        by_cases hz : 0 ≤ j ∧ j < es.length ∧ es.length ≤ 1000000
        · rw [if_pos hz] at h
          split at h
          · rename_i d' e3
            cases h
            obtain ⟨vs, h1, r⟩ := k.cell n a _ hc e2
            obtain ⟨k2, e4⟩ := k.write hc (r.eraseIdx j.toNat)
            obtain ⟨w, e5, iw⟩ := r.get e3
            exact ⟨a, vs, j, j.toNat, w, rfl, rfl, h1, by omega, by omega, seqIndex_of hz.1 (by rw [r.length]; exact hz.2.1), e5, q _ _ _ e4 k2 (iw.mono k e4)⟩
          · cases h
        · rw [if_neg hz] at h; cases h
      · cases h
  · cases h
def fExtend : FM := fun x xs S => match x, xs with
  | .cell k, [y] => match S[k]?, vl S y with
    | some (.lst ds), some es => if ds.length + es.length ≤ 1000000 then some (.non, S.set k (.lst (ds ++ es))) else none
    | _, _ => none
  | _, _ => none
theorem em_extend (ho : PEm X W o ma) (ha : PAm X W (e :: es) ms)
    (hbase : attributeBase o "extend" X.env (eval o X.env) = eval o X.env := by rfl)
    (hfew : ((backTo cpos (starEach (e :: es) X.env)).all (fun x => !x.1) && (backToKw cpos (keywordEach [] X.env)).all (fun x => x.1.isSome)
      && decide ((e :: es).length + ([] : List Keyword).length + (if ([] : List Keyword).isEmpty then 0 else 1) < 30)) = true := by rfl)
    (hline : (apos.endLine == cpos.line) = true := by rfl) (hs : starEach (e :: es) X.env = (false, eval e X.env) :: starEach es X.env := by rfl) (hplain : (backTo cpos (starEach es X.env)).any (·.1) = false := by rfl) :
    PEm X W (.Call (.Attribute o "extend" apos) (e :: es) [] cpos) (mCellM fExtend ma ms) := by
  refine em_methL (f := fExtend) PySem.F.plainAttrs_list PySem.F.slot_list_extend PySem.F.type_list_extend mt_extend (fun Z ρ S S' H n x xs ds d Q k ix i h q => ?_) ho ha hbase hfew hline hs hplain
  unfold fExtend at h
  split at h
  · rename_i x1 x2 m y e1
    cases e1
    obtain ⟨v, rfl, iv⟩ := is1 i
    cases ix with
    | cell hc =>
      rename_i a
      split at h
      · rename_i es fs e2 e3
        obtain ⟨hz, e4⟩ := of_if h
        cases e4
        obtain ⟨vs, h1, r⟩ := k.cell n a _ hc e2
        obtain ⟨b, ws, rfl, hb, rb⟩ := vl_tr k iv e3
        obtain ⟨k2, e2⟩ := k.write hc (r.append rb)
        exact ⟨a, b, vs, ws, rfl, rfl, h1, hb, by rw [r.length, rb.length]; exact sz hz, q _ _ _ e2 k2 .non⟩
      · cases h
  · cases h
end
end Pv

/-! Pv10: statements. -/
namespace Pv
open PySem PySem.Spec PyProof.Rows L2
/-- how a statement ends -/
inductive Fl where
  | nx (ds : En)
  | rt (d : D)
  | bk (ds : En)
  | ct (ds : En)
  | ex (c : Str) (v : D) (ds : En)
abbrev SM := En → M Fl
def PtS (K : PySem.W.Frag) (W : Wsh K) (Z ρ : List Addr) (H : Hp) (D : Ends) (fl : Fl) (S : Sto) : Prop := match fl with
  | .nx ds => ∀ ρ' H' σ', Ext ρ H ρ' H' → At K Z ρ' S H' σ' ds → D.nx σ' H'
  | .bk ds => ∀ ρ' H' σ', Ext ρ H ρ' H' → At K Z ρ' S H' σ' ds → D.bk σ' H'
  | .ct ds => ∀ ρ' H' σ', Ext ρ H ρ' H' → At K Z ρ' S H' σ' ds → D.ct σ' H'
  | .rt d => ∀ ρ' H' v, Ext ρ H ρ' H' → Ok K Z ρ' S H' → Is K Z ρ' H' v d → D.rt v H'
  | .ex c v ds => ∀ ρ' H' σ' S', Ext ρ H ρ' H' → At K Z ρ' S' H' σ' ds → W.P Z ρ' H' σ' ds c v S
def No : Str → D → Sto → Prop := fun _ _ _ => False
def tS (K : PySem.W.Frag) (W : Wsh K) (m : SM) : TS := fun D σ H => ∃ Z ρ S ds, At K Z ρ S H σ ds ∧ MP (m ds S) (PtS K W Z ρ H D) No
/-- a value's computation within a statement: an exception keeps the slots -/
def M.tr {α : Type} (m : M α) (ds : En) (k : α → M Fl) : M Fl := fun S => match m S with
  | .ok a S' => k a S'
  | .exc c v S' => .ok (.ex c v ds) S'
  | .no => .no
section
variable {K : PySem.W.Frag} {W : Wsh K} {Z ρ ρ' : List Addr} {S S' : Sto} {H H' : Hp} {D D' : Ends} {fl : Fl} {σ : L2.St} {ds : En}
theorem PtS.up (e : Ext ρ H ρ' H') (h : PtS K W Z ρ H D fl S) : PtS K W Z ρ' H' D fl S := by
  cases fl with
  | nx ds => exact fun ρ2 H2 σ2 e2 t => h ρ2 H2 σ2 (e.trans e2) t
  | bk ds => exact fun ρ2 H2 σ2 e2 t => h ρ2 H2 σ2 (e.trans e2) t
  | ct ds => exact fun ρ2 H2 σ2 e2 t => h ρ2 H2 σ2 (e.trans e2) t
  | rt d => exact fun ρ2 H2 v e2 k i => h ρ2 H2 v (e.trans e2) k i
  | ex c v ds => exact fun ρ2 H2 σ2 S2 e2 t => h ρ2 H2 σ2 S2 (e.trans e2) t
theorem MP.tr {α : Type} {m : M α} {k : α → M Fl} (t : At K Z ρ S H σ ds) (h : MP (M.tr m ds k S) (PtS K W Z ρ H D) No) : MP (m S) (fun a S1 => MP (k a S1) (PtS K W Z ρ H D) No) (W.P Z ρ H σ ds) := by
  unfold M.tr at h
  cases e : m S with
  | ok a S1 => rw [e] at h; exact h
  | exc c v S1 => rw [e] at h; exact h ρ H σ S Ext.refl t
  | no => rw [e] at h; exact h
end
section
variable {X : Cx} {W : Wsh X.K} {st : Stmt} {rest : List Stmt} {m m2 : SM} {ma : EM} {mt : TM} {e : Expr} {pos : Pos}
def PSm (X : Cx) (W : Wsh X.K) (st : Stmt) (m : SM) : Prop := PS X st (tS X.K W m)
def PSsm (X : Cx) (W : Wsh X.K) (st : List Stmt) (m : SM) : Prop := PSs X st (tS X.K W m)
theorem PS.imp {t t' : TS} (h : PS X st t) (i : ∀ D σ H, t' D σ H → t D σ H) : PS X st t' := ⟨fun pins s σ H D I q => h.run pins s σ H D I (i D σ H q)⟩
theorem PSs.imp {t t' : TS} (h : PSs X rest t) (i : ∀ D σ H, t' D σ H → t D σ H) : PSs X rest t' := ⟨fun pins s σ H D I q => h.run pins s σ H D I (i D σ H q)⟩
theorem tE_tr {σ : L2.St} {H : Hp} {ds : En} {Z ρ : List Addr} {S : Sto} {D : Ends} {k : Pv.D → M Fl} (t : At X.K Z ρ S H σ ds) (h : MP (M.tr (ma ds) ds k S) (PtS X.K W Z ρ H D) No)
    {R : VK} (kk : ∀ d S1 ρ1 H1 v, Ext ρ H ρ1 H1 → At X.K Z ρ1 S1 H1 σ ds → Is X.K Z ρ1 H1 v d → MP (k d S1) (PtS X.K W Z ρ1 H1 D) No → R v H1) : tE X.K W ma σ H R :=
  ⟨Z, ρ, S, ds, t, (MP.tr t h).imp (fun d S1 q ρ1 H1 v e1 k1 i => kk d S1 ρ1 H1 v e1 (t.up e1 k1) i (q.imp (fun _ _ z => z.up e1) fun _ _ _ z => z)) fun _ _ _ z => z⟩
theorem tT_tr {σ : L2.St} {H : Hp} {ds : En} {Z ρ : List Addr} {S : Sto} {D : Ends} {k : Bool → M Fl} (t : At X.K Z ρ S H σ ds) (h : MP (M.tr (mt ds) ds k S) (PtS X.K W Z ρ H D) No)
    {R : Bool → Hp → Prop} (kk : ∀ d S1 ρ1 H1, Ext ρ H ρ1 H1 → At X.K Z ρ1 S1 H1 σ ds → MP (k d S1) (PtS X.K W Z ρ1 H1 D) No → R d H1) : tT X.K W mt σ H R :=
  ⟨Z, ρ, S, ds, t, (MP.tr t h).imp (fun d S1 q ρ1 H1 e1 k1 => kk d S1 ρ1 H1 e1 (t.up e1 k1) (q.imp (fun _ _ z => z.up e1) fun _ _ _ z => z)) fun _ _ _ z => z⟩
/-- behind: what comes next -/
def aft (m2 : SM) : Fl → M Fl
  | .nx ds => m2 ds
  | fl => pure fl
def mSeq (m m2 : SM) : SM := fun ds => m ds >>= aft m2
def mNext : SM := fun ds => pure (.nx ds)
theorem ssm_nil : PSsm X W [] mNext := PSs.imp pss_nil fun D σ H ⟨Z, ρ, S, ds, t, h⟩ => (MP.pure h : PtS _ _ _ _ _ _ _ _) ρ H σ Ext.refl t
theorem seq_of {D : Ends} {Z ρ : List Addr} {H : Hp} {ds : En} {S : Sto} {nx : L2.St → Hp → Prop} (h : MP (mSeq m m2 ds S) (PtS X.K W Z ρ H D) No)
    (kk : ∀ ds1 S1 ρ1 H1 σ1, Ext ρ H ρ1 H1 → At X.K Z ρ1 S1 H1 σ1 ds1 → MP (m2 ds1 S1) (PtS X.K W Z ρ1 H1 D) No → nx σ1 H1) : MP (m ds S) (PtS X.K W Z ρ H { D with nx := nx }) No := by
  refine (MP.bind h).imp (fun fl S1 q => ?_) fun _ _ _ z => z
  cases fl with
  | nx ds1 => exact fun ρ1 H1 σ1 e1 t1 => kk ds1 S1 ρ1 H1 σ1 e1 t1 ((show MP (m2 ds1 S1) _ _ from q).imp (fun _ _ z => z.up e1) fun _ _ _ z => z)
  | bk ds1 => exact (MP.pure q : PtS _ _ _ _ _ _ _ _)
  | ct ds1 => exact (MP.pure q : PtS _ _ _ _ _ _ _ _)
  | rt d => exact (MP.pure q : PtS _ _ _ _ _ _ _ _)
  | ex c v ds1 => exact (MP.pure q : PtS _ _ _ _ _ _ _ _)
theorem ssm_cons (h1 : PSm X W st m) (h2 : PSsm X W rest m2) : PSsm X W (st :: rest) (mSeq m m2) :=
  PSs.imp (pss_cons h1 h2) fun D σ H ⟨Z, ρ, S, ds, t, h⟩ => ⟨Z, ρ, S, ds, t, seq_of h fun ds1 S1 ρ1 H1 σ1 e1 t1 q => ⟨Z, ρ1, S1, ds1, t1, q⟩⟩
theorem ssm_one (h1 : PSm X W st m) : PSsm X W [st] m := pss_one h1
theorem sm_pass : PSm X W (.Pass pos) mNext := PS.imp ps_pass fun D σ H ⟨Z, ρ, S, ds, t, h⟩ => (MP.pure h : PtS _ _ _ _ _ _ _ _) ρ H σ Ext.refl t
def mBreak : SM := fun ds => pure (.bk ds)
def mCont : SM := fun ds => pure (.ct ds)
theorem sm_break : PSm X W (.Break pos) mBreak := PS.imp ps_break fun D σ H ⟨Z, ρ, S, ds, t, h⟩ => (MP.pure h : PtS _ _ _ _ _ _ _ _) ρ H σ Ext.refl t
theorem sm_cont : PSm X W (.Continue pos) mCont := PS.imp ps_continue fun D σ H ⟨Z, ρ, S, ds, t, h⟩ => (MP.pure h : PtS _ _ _ _ _ _ _ _) ρ H σ Ext.refl t
def mExpr (ma : EM) : SM := fun ds => M.tr (ma ds) ds fun _ => pure (.nx ds)
theorem sm_expr (he : PEm X W e ma) (hs : swapsWith e none pos.line X.env = pure false := by rfl) : PSm X W (.Expr e pos) (mExpr ma) :=
  PS.imp (ps_expr he hs) fun D σ H ⟨Z, ρ, S, ds, t, h⟩ => tE_tr t h fun d S1 ρ1 H1 v e1 t1 i q => (MP.pure q : PtS _ _ _ _ _ _ _ _) ρ1 H1 σ Ext.refl t1
def mRet (ma : EM) : SM := fun ds => M.tr (ma ds) ds fun d => pure (.rt d)
theorem sm_ret (he : PEm X W e ma) : PSm X W (.Return (some e) pos) (mRet ma) :=
  PS.imp (ps_ret he) fun D σ H ⟨Z, ρ, S, ds, t, h⟩ => tE_tr t h fun d S1 ρ1 H1 v e1 t1 i q => (MP.pure q : PtS _ _ _ _ _ _ _ _) ρ1 H1 v Ext.refl t1.ok i
def mRetN : SM := fun ds => pure (.rt .non)
theorem sm_retN : PSm X W (.Return none pos) mRetN := PS.imp ps_retN fun D σ H ⟨Z, ρ, S, ds, t, h⟩ => (MP.pure h : PtS _ _ _ _ _ _ _ _) ρ H .non Ext.refl t.ok .non
def mIfS (mt : TM) (m m2 : SM) : SM := fun ds => M.tr (mt ds) ds fun c => if c = true then m ds else m2 ds
theorem sm_if {c : Expr} {a b : List Stmt} (hc : PTm X W c mt) (ha : PSsm X W a m) (hb : PSsm X W b m2) : PSm X W (.If c a b pos) (mIfS mt m m2) :=
  PS.imp (ps_if hc ha hb) fun D σ H ⟨Z, ρ, S, ds, t, h⟩ => tT_tr t h fun d S1 ρ1 H1 e1 t1 q => by
    cases d with
    | true => rw [if_pos rfl] at q ⊢; exact ⟨Z, ρ1, S1, ds, t1, q⟩
    | false => rw [if_neg Bool.false_ne_true] at q ⊢; exact ⟨Z, ρ1, S1, ds, t1, q⟩
/-- a statement that is never reached -/
def mNever : SM := fun _ => stuck
theorem sm_never : PSm X W st mNever := PS.imp ps_never fun D σ H ⟨Z, ρ, S, ds, t, h⟩ => h.elim
theorem ssm_never : PSsm X W rest mNever := PSs.imp pss_never fun D σ H ⟨Z, ρ, S, ds, t, h⟩ => h.elim

/-! ### targets -/
/-- what a target does with a value: data, slots, the store -/
abbrev GM := D → En → M En
def tG (K : PySem.W.Frag) (W : Wsh K) (m : GM) : TG := fun v σ H Q => ∃ Z ρ S ds d, At K Z ρ S H σ ds ∧ Is K Z ρ H v d ∧ MP (m d ds S) (fun ds1 S1 => ∀ ρ' H' σ', Ext ρ H ρ' H' → At K Z ρ' S1 H' σ' ds1 → Q σ' H') (W.P Z ρ H σ ds)
def PGm (X : Cx) (W : Wsh X.K) (tg : Expr) (m : GM) : Prop := PG X tg (tG X.K W m)
theorem PG.imp {tg : Expr} {t t' : TG} (h : PG X tg t) (i : ∀ v σ H Q, t' v σ H Q → t v σ H Q) : PG X tg t' := ⟨fun pins s σ H v u Q I r q => h.run pins s σ H v u Q I r (i v σ H Q q)⟩
def mName (i : Nat) : GM := fun d ds => pure (ds.set i (some d))
theorem gm_name {i : Nat} {x : Str} (hN : X.N.Nodup) (hi : X.N[i]? = some x) (hx : Loc X.env.scope x) (hf : X.fn x = true ∨ X.env.scope.names.lookup x = some .local := by first | exact .inl rfl | exact .inr rfl | assumption) : PGm X W (.Name x pos) (mName i) :=
  PG.imp (pg_name hN hi hx hf) fun v σ H Q ⟨Z, ρ, S, ds, d, t, i, h⟩ => (MP.pure h) ρ H _ Ext.refl ⟨t.ok, t.env.set _ i⟩
/-- names of a tuple -/
def setAll : List Nat → List D → En → En
  | i :: is, d :: r, ds => setAll is r (ds.set i (some d))
  | _, _, ds => ds
def tGs (K : PySem.W.Frag) (is : List Nat) : TGs := fun vs σ H Q => ∃ Z ρ S ds xs, At K Z ρ S H σ ds ∧ IsAll K Z ρ H vs xs ∧ xs.length = is.length ∧ ∀ σ', At K Z ρ S H σ' (setAll is xs ds) → Q σ' H
def PGsm (X : Cx) (ts : List Expr) (is : List Nat) : Prop := PGs X ts (tGs X.K is)
theorem PGs.imp {ts : List Expr} {t t' : TGs} (h : PGs X ts t) (i : ∀ v σ H Q, t' v σ H Q → t v σ H Q) : PGs X ts t' := ⟨fun pins s σ H v u Q I r q => h.run pins s σ H v u Q I r (i v σ H Q q)⟩
theorem gsm_nil : PGsm X [] [] := PGs.imp pgs_nil fun vs σ H Q ⟨Z, ρ, S, ds, xs, t, i, l, h⟩ => by
  cases xs with
  | nil => cases i; exact ⟨rfl, h σ t⟩
  | cons a b => simp at l
theorem gsm_cons {i : Nat} {x : Str} {es : List Expr} {is : List Nat} (hN : X.N.Nodup) (hi : X.N[i]? = some x) (hx : Loc X.env.scope x) (h : PGsm X es is) (hf : X.fn x = true ∨ X.env.scope.names.lookup x = some .local := by first | exact .inl rfl | exact .inr rfl | assumption)
    (hs : (assignEach (.Name x pos :: es) X.env).map (·.2) = assign (.Name x pos) X.env :: (assignEach es X.env).map (·.2) := by rfl) : PGsm X (.Name x pos :: es) (i :: is) :=
  PGs.imp (pgs_cons (pg_name hN hi hx hf) h hs) fun vs σ H Q ⟨Z, ρ, S, ds, xs, t, ia, l, q⟩ => by
    cases ia with
    | nil => simp at l
    | cons iv r => exact ⟨_, _, rfl, Z, ρ, S, _, _, ⟨t.ok, t.env.set _ iv⟩, r, by simpa using l, fun σ' t' => q σ' t'⟩
def mTupG (is : List Nat) : GM := fun d ds => match d with
  | .tup xs => if xs.length = is.length then pure (setAll is xs ds) else stuck
  | _ => stuck
theorem gm_tup {es : List Expr} {k : Nat} {is : List Nat} (hc : X.calm = true) (h : PGsm X es is) (hn : (assignEach es X.env).length = is.length := by rfl) (hst : (assignEach es X.env).findIdx? (·.1) = none := by rfl) : PGm X W (.Tuple es k pos) (mTupG is) :=
  PG.imp (pg_tup hc h hn hst) fun v σ H Q ⟨Z, ρ, S, ds, d, t, ia, q⟩ => by
    cases ia with
    | @tup a vs xs hq r =>
      unfold mTupG at q
      simp only at q
      by_cases hl : xs.length = is.length
      · rw [if_pos hl] at q
        exact ⟨_, vs, rfl, hq, by rw [r.length]; exact hl, Z, ρ, S, ds, xs, t, r, hl, fun σ' t' => (MP.pure q) ρ H σ' Ext.refl t'⟩
      · rw [if_neg hl] at q; exact q.elim
    | _ => exact q.elim
/-- a store at a place of a list -/
def mSub (mo mi : EM) : GM := fun d ds => mo ds >>= fun o => mi ds >>= fun i => fun S => match o, i with
  | .cell k, .int j => match S[k]? with
    | some (.lst xs) => match ixN xs.length j with
      | some n => .ok ds (S.set k (.lst (xs.set n d)))
      | none => .no
    | none => .no
  | _, _ => .no
theorem gm_sub {o i : Expr} {mo mi : EM} (ho : PEm X W o mo) (hi : PEm X W i mi)
    (ha : ∀ v, assign (.Subscript o i pos) X.env v = (do
      let ov ← holding [v] (eval o X.env)
      let iv ← holding [v, ov] (eval i X.env)
      standAt pos
      holding [v, ov, iv] (setItem ov iv v)
      release [v, ov, iv] []) := by intro _; rfl) : PGm X W (.Subscript o i pos) (mSub mo mi) :=
  PG.imp (pg_sub ho hi set_list ha) fun v σ H Q ⟨Z, ρ, S, ds, d, t, iv, h⟩ => by
    refine tE_bind t h fun d1 S1 ρ1 H1 v1 e1 t1 i1 q1 => ?_
    refine tE_bind t1 q1 fun d2 S2 ρ2 H2 v2 e2 t2 i2 q2 => ?_
    have i1' := i1.mono t1.ok e2
    have iv' := (iv.mono t.ok e1).mono t1.ok e2
    cases i1' with
    | cell hc =>
      rename_i a k
      cases i2 with
      | int j =>
        simp only at q2
        split at q2
        · rename_i xs e3
          split at q2
          · rename_i n e4
            obtain ⟨vs, h1, r⟩ := t2.ok.cell k a _ hc e3
            obtain ⟨k3, e5⟩ := t2.ok.write hc (r.set iv' n)
            refine ⟨a, vs, j, n, rfl, rfl, h1, by rw [r.length]; exact e4, ?_⟩
            exact (show _ from q2) ρ2 _ σ ((e1.trans e2).trans e5) ⟨k3, t2.env.mono t2.ok e5⟩
          · exact q2.elim
        · exact q2.elim
      | _ => exact q2.elim
    | _ => exact q2.elim
def mAsg (ma : EM) (g : GM) : SM := fun ds => M.tr (ma ds) ds fun d => M.tr (g d ds) ds fun ds1 => pure (.nx ds1)
theorem asg_of {g : GM} {D : Ends} {σ : L2.St} {H : Hp} (h : tS X.K W (mAsg ma g) D σ H) : tAsg (tE X.K W ma) (tG X.K W g) D σ H := by
  obtain ⟨Z, ρ, S, ds, t, h⟩ := h
  refine tE_tr t h fun d S1 ρ1 H1 v e1 t1 i q => ⟨Z, ρ1, S1, ds, d, t1, i, (MP.tr t1 q).imp (fun ds1 S2 q2 => ?_) fun _ _ _ z => z⟩
  exact (MP.pure q2 : PtS _ _ _ _ _ _ _ _)
theorem sm_asg {tg : Expr} {g : GM} (he : PEm X W e ma) (hg : PGm X W tg g) (hs : swapsWithSole [tg] e pos.line X.env = pure false := by rfl) (hw : swappedStores [tg] e X.env = pure none := by rfl)
    (h1 : (assignEach [tg] X.env).map (·.2) = [assign tg X.env] := by rfl) : PSm X W (.Assign [tg] e pos) (mAsg ma g) :=
  PS.imp (ps_asg he hg hs hw h1) fun D σ H h => asg_of h
def mSet (i : Nat) (ma : EM) : SM := fun ds => M.tr (ma ds) ds fun d => pure (.nx (ds.set i (some d)))
theorem set_of {i : Nat} {D : Ends} {σ : L2.St} {H : Hp} (h : tS X.K W (mSet i ma) D σ H) : tAsg (tE X.K W ma) (gName i) D σ H := by
  obtain ⟨Z, ρ, S, ds, t, h⟩ := h
  exact tE_tr t h fun d S1 ρ1 H1 v e1 t1 ii q => (MP.pure q : PtS _ _ _ _ _ _ _ _) ρ1 H1 _ Ext.refl ⟨t1.ok, t1.env.set i ii⟩
theorem sm_set {i : Nat} {x : Str} {pos' : Pos} (hN : X.N.Nodup) (hi : X.N[i]? = some x) (hx : Loc X.env.scope x) (he : PEm X W e ma) (hs : swapsWith e (some (.Name x pos')) pos.line X.env = pure false := by rfl) (hf : X.fn x = true ∨ X.env.scope.names.lookup x = some .local := by first | exact .inl rfl | exact .inr rfl | assumption) :
    PSm X W (.Assign [.Name x pos'] e pos) (mSet i ma) := PS.imp (ps_set hN hi hx he hs hf) fun D σ H h => set_of h
/-- a, b = x, y -/
def mPar (i j : Nat) (ms : AM) : SM := fun ds => M.tr (ms ds) ds fun xs => match xs with
  | [x, y] => pure (.nx ((ds.set i (some x)).set j (some y)))
  | _ => stuck
theorem tA_tr {ms : AM} {σ : L2.St} {H : Hp} {ds : En} {Z ρ : List Addr} {S : Sto} {D : Ends} {k : List Pv.D → M Fl} (t : At X.K Z ρ S H σ ds) (h : MP (M.tr (ms ds) ds k S) (PtS X.K W Z ρ H D) No)
    {R : List V → Hp → Prop} (kk : ∀ d S1 ρ1 H1 v, Ext ρ H ρ1 H1 → At X.K Z ρ1 S1 H1 σ ds → IsAll X.K Z ρ1 H1 v d → MP (k d S1) (PtS X.K W Z ρ1 H1 D) No → R v H1) : tA X.K W ms σ H R :=
  ⟨Z, ρ, S, ds, t, (MP.tr t h).imp (fun d S1 q ρ1 H1 v e1 k1 i => kk d S1 ρ1 H1 v e1 (t.up e1 k1) i (q.imp (fun _ _ z => z.up e1) fun _ _ _ z => z)) fun _ _ _ z => z⟩
theorem sm_par {i j : Nat} {x y : Str} {a b : Expr} {ms : AM} {px py pt : Pos} {kt k2 pt2} (hc : X.calm = true) (hN : X.N.Nodup) (hi : X.N[i]? = some x) (hj : X.N[j]? = some y) (hij : i ≠ j)
    (hx : X.env.scope.names.lookup x = some .local) (hy : X.env.scope.names.lookup y = some .local) (ha : PAm X W [a, b] ms)
    (hw : swappedStores [.Tuple [.Name x px, .Name y py] kt pt] (.Tuple [a, b] k2 pt2) X.env = pure (some [x, y]))
    (hs : swapsWithSole [.Tuple [.Name x px, .Name y py] kt pt] (.Tuple [a, b] k2 pt2) pos.line X.env = pure false := by rfl) :
    PSm X W (.Assign [.Tuple [.Name x px, .Name y py] kt pt] (.Tuple [a, b] k2 pt2) pos) (mPar i j ms) :=
  PS.imp (ps_par hc hN hi hj hij hx hy ha hw hs) fun D σ H ⟨Z, ρ, S, ds, t, h⟩ => tA_tr t h fun d S1 ρ1 H1 v e1 t1 ii q => by
    cases ii with
    | nil => exact q.elim
    | cons i1 r =>
      cases r with
      | nil => exact q.elim
      | cons i2 r =>
        cases r with
        | nil => exact ⟨_, _, rfl, (MP.pure q : PtS _ _ _ _ _ _ _ _) ρ1 H1 _ Ext.refl ⟨t1.ok, (t1.env.set i i1).set j i2⟩⟩
        | cons _ _ => exact q.elim
/-- a, b, c = x, y, z -/
def mPar3 (i j l : Nat) (ms : AM) : SM := fun ds => M.tr (ms ds) ds fun xs => match xs with
  | [x, y, z] => pure (.nx (((ds.set i (some x)).set j (some y)).set l (some z)))
  | _ => stuck
theorem sm_par3 {i j l : Nat} {x y z : Str} {a b c : Expr} {ms : AM} {px py pz pt : Pos} {kt k2 pt2} (hc : X.calm = true) (hN : X.N.Nodup) (hi : X.N[i]? = some x) (hj : X.N[j]? = some y) (hl : X.N[l]? = some z) (hij : i ≠ j) (hil : i ≠ l) (hjl : j ≠ l)
    (hx : X.env.scope.names.lookup x = some .local) (hy : X.env.scope.names.lookup y = some .local) (hz : X.env.scope.names.lookup z = some .local) (ha : PAm X W [a, b, c] ms)
    (hw : swappedStores [.Tuple [.Name x px, .Name y py, .Name z pz] kt pt] (.Tuple [a, b, c] k2 pt2) X.env = pure (some [x, y, z]))
    (hs : swapsWithSole [.Tuple [.Name x px, .Name y py, .Name z pz] kt pt] (.Tuple [a, b, c] k2 pt2) pos.line X.env = pure false := by rfl) :
    PSm X W (.Assign [.Tuple [.Name x px, .Name y py, .Name z pz] kt pt] (.Tuple [a, b, c] k2 pt2) pos) (mPar3 i j l ms) :=
  PS.imp (ps_par3 hc hN hi hj hl hij hil hjl hx hy hz ha hw hs) fun D σ H ⟨Z, ρ, S, ds, t, h⟩ => tA_tr t h fun d S1 ρ1 H1 v e1 t1 ii q => by
    cases ii with
    | nil => exact q.elim
    | cons i1 r =>
      cases r with
      | nil => exact q.elim
      | cons i2 r =>
        cases r with
        | nil => exact q.elim
        | cons i3 r =>
          cases r with
          | nil => exact ⟨_, _, _, rfl, (MP.pure q : PtS _ _ _ _ _ _ _ _) ρ1 H1 _ Ext.refl ⟨t1.ok, ((t1.env.set i i1).set j i2).set l i3⟩⟩
          | cons _ _ => exact q.elim
end
end Pv

/-! Pv11: what is walked, for, while, comprehensions. -/
namespace Pv
open PySem PySem.Spec PyProof.Rows L2
/-! ### a list that is being made -/
section
variable {K : PySem.W.Frag} {Z ρ ρ' ρ1 : List Addr} {S S' : Sto} {H H' H1 : Hp} {v : V} {d : D} {vs ws : List V} {ds : List D} {p : Addr} {σ : L2.St} {en : En}
mutual
theorem Is.addZ (hp : H p = none) : ∀ {v : V} {d : D}, Is K Z ρ H v d → Is K (p :: Z) ρ H v d
  | _, _, .non => .non
  | _, _, .bl b => .bl b
  | _, _, .int i => .int i
  | _, _, .str x => .str x
  | _, _, .tup h r => .tup h (IsAll.addZ hp r)
  | _, _, .lst h r => .lst ⟨h.1, h.2.1, fun z => (List.mem_cons.mp z).elim (fun e => by rw [← e, h.1] at hp; cases hp) h.2.2⟩ (IsAll.addZ hp r)
  | _, _, .cell h => .cell h
  | _, _, .ty n => .ty n
  | _, _, .scr h r => .scr h (IsAll.addZ hp r)
theorem IsAll.addZ (hp : H p = none) : ∀ {vs : List V} {ds : List D}, IsAll K Z ρ H vs ds → IsAll K (p :: Z) ρ H vs ds
  | _, _, .nil => .nil
  | _, _, .cons h r => .cons (Is.addZ hp h) (IsAll.addZ hp r)
end
mutual
theorem Is.delZ : ∀ {v : V} {d : D}, Is K (p :: Z) ρ H v d → Is K Z ρ H v d
  | _, _, .non => .non
  | _, _, .bl b => .bl b
  | _, _, .int i => .int i
  | _, _, .str x => .str x
  | _, _, .tup h r => .tup h (IsAll.delZ r)
  | _, _, .lst h r => .lst ⟨h.1, h.2.1, fun z => h.2.2 (List.mem_cons_of_mem _ z)⟩ (IsAll.delZ r)
  | _, _, .cell h => .cell h
  | _, _, .ty n => .ty n
  | _, _, .scr h r => .scr h (IsAll.delZ r)
theorem IsAll.delZ : ∀ {vs : List V} {ds : List D}, IsAll K (p :: Z) ρ H vs ds → IsAll K Z ρ H vs ds
  | _, _, .nil => .nil
  | _, _, .cons h r => .cons (Is.delZ h) (IsAll.delZ r)
end
mutual
theorem Is.zw (k : Ok K Z ρ S H) (hp : p ∈ Z) (hl : H p = some (.lst vs)) {o : HO} : ∀ {v : V} {d : D}, Is K Z ρ H v d → Is K Z ρ (upd H p o) v d
  | _, _, .non => .non
  | _, _, .bl b => .bl b
  | _, _, .int i => .int i
  | _, _, .str x => .str x
  | _, _, .tup h r => .tup (by
      rcases h with (h | ⟨o', h⟩) | h
      · exact .inl (.inl (by rw [upd_ne (fun z => by rw [z, hl] at h; cases h)]; exact h))
      · exact .inl (.inr ⟨o', by rw [upd_ne (fun z => by rw [z, hl] at h; cases h)]; exact h⟩)
      · exact .inr h) (IsAll.zw k hp hl r)
  | _, _, .lst h r => .lst ⟨by rw [upd_ne (fun z => h.2.2 (by rw [z]; exact hp))]; exact h.1, h.2⟩ (IsAll.zw k hp hl r)
  | _, _, .cell h => .cell h
  | _, _, .ty n => .ty n
  | _, _, .scr h r => .scr (by
      rcases h with ⟨o', h⟩ | h
      · exact .inl ⟨o', by rw [upd_ne (fun z => by rw [z, hl] at h; cases h)]; exact h⟩
      · exact .inr h) (IsAll.zw k hp hl r)
theorem IsAll.zw (k : Ok K Z ρ S H) (hp : p ∈ Z) (hl : H p = some (.lst vs)) {o : HO} : ∀ {vs : List V} {ds : List D}, IsAll K Z ρ H vs ds → IsAll K Z ρ (upd H p o) vs ds
  | _, _, .nil => .nil
  | _, _, .cons h r => .cons (Is.zw k hp hl h) (IsAll.zw k hp hl r)
end
theorem Ok.zw (k : Ok K Z ρ S H) (hp : p ∈ Z) (hl : H p = some (.lst vs)) : Ok K Z ρ S (upd H p (.lst ws)) where
  len := k.len
  nd := k.nd
  zd := k.zd
  zt := fun a h => by
    by_cases e : a = p
    · exact ⟨ws, by rw [e]; exact upd_same⟩
    · rw [upd_ne e]; exact k.zt a h
  cell := fun i a q h1 h2 => by
    have w := k.cell i a q h1 h2
    cases q with
    | lst es =>
      obtain ⟨us, e1, r⟩ := w
      exact ⟨us, by rw [upd_ne (fun z => k.zd a (List.mem_of_getElem? h1) (by rw [z]; exact hp))]; exact e1, r.zw k hp hl⟩
theorem EnvIs.zw (n : EnvIs K Z ρ H σ en) (k : Ok K Z ρ S H) (hp : p ∈ Z) (hl : H p = some (.lst vs)) {o : HO} : EnvIs K Z ρ (upd H p o) σ en := ⟨n.len, fun i d h => let ⟨v, a, b⟩ := n.get i d h; ⟨v, a, b.zw k hp hl⟩⟩
theorem EnvIs.addZ (n : EnvIs K Z ρ H σ en) (hp : H p = none) : EnvIs K (p :: Z) ρ H σ en := ⟨n.len, fun i d h => let ⟨v, a, b⟩ := n.get i d h; ⟨v, a, b.addZ hp⟩⟩
/-- from H1 on, where p was none -/
theorem Ext.at (e : Ext ρ1 H1 ρ H) (hp : H1 p = none) {o : HO} : Ext ρ1 H1 ρ (upd H p o) where
  more := e.more
  keep := fun b u n q => by rw [upd_ne (ne_of_none q hp)]; exact e.keep b u n q
  there := fun b u q => by rw [upd_ne (ne_of_none q hp)]; exact e.there b u q
mutual
theorem Is.monoZ {Y : List Addr} (k : Ok K Y ρ S H) (e : Ext ρ H ρ' H') : ∀ {v : V} {d : D}, Is K Z ρ H v d → Is K Z ρ' H' v d
  | _, _, .non => .non
  | _, _, .bl b => .bl b
  | _, _, .int i => .int i
  | _, _, .str x => .str x
  | _, _, .tup h r => .tup (keepT k e h) (IsAll.monoZ k e r)
  | _, _, .lst h r => .lst (keepL e h) (IsAll.monoZ k e r)
  | _, _, .cell h => .cell (e.get h)
  | _, _, .ty n => .ty n
  | _, _, .scr h r => .scr (keepS k e h) (IsAll.monoZ k e r)
theorem IsAll.monoZ {Y : List Addr} (k : Ok K Y ρ S H) (e : Ext ρ H ρ' H') : ∀ {vs : List V} {ds : List D}, IsAll K Z ρ H vs ds → IsAll K Z ρ' H' vs ds
  | _, _, .nil => .nil
  | _, _, .cons h r => .cons (Is.monoZ k e h) (IsAll.monoZ k e r)
end
theorem Ok.addZ (k : Ok K Z ρ S H) (hp : H p = none) : Ok K (p :: Z) ρ S (upd H p (.lst [])) where
  len := k.len
  nd := k.nd
  zd := fun a h z => (List.mem_cons.mp z).elim (fun e => k.nf hp (by rw [← e]; exact h)) (k.zd a h)
  zt := fun a h => (List.mem_cons.mp h).elim (fun e => ⟨[], by rw [e]; exact upd_same⟩) fun h => by
    obtain ⟨vs, q⟩ := k.zt a h
    exact ⟨vs, by rw [upd_ne (ne_of_none q hp)]; exact q⟩
  cell := fun i a q h1 h2 => by
    have w := k.cell i a q h1 h2
    cases q with
    | lst es =>
      obtain ⟨us, e1, r⟩ := w
      exact ⟨us, by rw [upd_ne (ne_of_none e1 hp)]; exact e1, (r.addZ hp).monoZ k (ext_new hp)⟩
theorem EnvIs.monoZ {Y : List Addr} (n : EnvIs K Z ρ H σ en) (k : Ok K Y ρ S H) (e : Ext ρ H ρ' H') : EnvIs K Z ρ' H' σ en := ⟨n.len, fun i d h => let ⟨v, a, b⟩ := n.get i d h; ⟨v, a, b.monoZ k e⟩⟩
/-- the list is done -/
theorem Ok.delZ (k : Ok K (p :: Z) ρ S H) : Ok K Z ρ S H where
  len := k.len
  nd := k.nd
  zd := fun a h z => k.zd a h (List.mem_cons_of_mem _ z)
  zt := fun a h => k.zt a (List.mem_cons_of_mem _ h)
  cell := fun i a q h1 h2 => by
    have w := k.cell i a q h1 h2
    cases q with
    | lst es =>
      obtain ⟨us, e1, r⟩ := w
      exact ⟨us, e1, r.delZ⟩
mutual
theorem Is.toC : ∀ {v : V} {d : D}, Is K (p :: Z) ρ H v d → Is K Z (ρ ++ [p]) H v d
  | _, _, .non => .non
  | _, _, .bl b => .bl b
  | _, _, .int i => .int i
  | _, _, .str x => .str x
  | _, _, .tup h r => .tup h (IsAll.toC r)
  | _, _, .lst h r => .lst ⟨h.1, fun z => (List.mem_append.mp z).elim h.2.1 fun z => h.2.2 (by rw [List.mem_singleton.mp z]; exact List.mem_cons_self), fun z => h.2.2 (List.mem_cons_of_mem _ z)⟩ (IsAll.toC r)
  | _, _, .cell h => .cell (by rw [List.getElem?_append_left (List.getElem?_eq_some_iff.mp h).1]; exact h)
  | _, _, .ty n => .ty n
  | _, _, .scr h r => .scr h (IsAll.toC r)
theorem IsAll.toC : ∀ {vs : List V} {ds : List D}, IsAll K (p :: Z) ρ H vs ds → IsAll K Z (ρ ++ [p]) H vs ds
  | _, _, .nil => .nil
  | _, _, .cons h r => .cons (Is.toC h) (IsAll.toC r)
end
theorem Ok.toC (k : Ok K (p :: Z) ρ S H) (hz : p ∉ Z) (hl : H p = some (.lst vs)) (r : IsAll K (p :: Z) ρ H vs ds) : Ok K Z (ρ ++ [p]) (S ++ [.lst ds]) H where
  len := by rw [List.length_append, List.length_append, k.len]; rfl
  nd := by
    rw [List.nodup_append]
    exact ⟨k.nd, by simp, fun a ha b hb z => k.zd a ha (by rw [z, List.mem_singleton.mp hb]; exact List.mem_cons_self)⟩
  zd := fun a h z => (List.mem_append.mp h).elim (fun h => k.zd a h (List.mem_cons_of_mem _ z)) fun h => hz (by rw [← List.mem_singleton.mp h]; exact z)
  zt := fun a h => k.zt a (List.mem_cons_of_mem _ h)
  cell := fun i a c h1 h2 => by
    by_cases hi : i < ρ.length
    · rw [List.getElem?_append_left hi] at h1
      rw [List.getElem?_append_left (by rw [← k.len]; exact hi)] at h2
      have w := k.cell i a c h1 h2
      cases c with
      | lst es =>
        obtain ⟨ws, e1, r1⟩ := w
        exact ⟨ws, e1, r1.toC⟩
    · have hi2 : i = ρ.length := by
        have := (List.getElem?_eq_some_iff.mp h1).1
        rw [List.length_append] at this
        simp at this; omega
      subst hi2
      have a1 : p = a := by simpa using h1
      have a2 : Cl.lst ds = c := by rw [k.len] at h2; simpa using h2
      subst a1 a2
      exact ⟨vs, hl, r.toC⟩
end
/-! ### what is walked -/
structure Src (K : PySem.W.Frag) (J : It) (items : List D) (G : List Addr → List Addr → Hp → Prop) : Prop where
  go : ∀ (i : Nat) Z ρ S H, i < items.length → G Z ρ H → Ok K Z ρ S H → J.go i H
  stop : ∀ Z ρ S H, G Z ρ H → Ok K Z ρ S H → J.stop items.length H
  yld : ∀ (i : Nat) (d : D) Z ρ S H x H', items[i]? = some d → G Z ρ H → Ok K Z ρ S H → J.yld i H x H' → Ext ρ H ρ H' ∧ Ok K Z ρ S H' ∧ Is K Z ρ H' x d
  keep : ∀ Z Y ρ S H ρ' H', G Z ρ H → Ok K Y ρ S H → Ext ρ H ρ' H' → G Z ρ' H'
  zw : ∀ Z ρ S H p vs o, G Z ρ H → Ok K Z ρ S H → p ∈ Z → H p = some (.lst vs) → G Z ρ (upd H p o)
  addZ : ∀ Z ρ H p, G Z ρ H → H p = none → G (p :: Z) ρ H
abbrev IM := En → M (List D)
def tI (K : PySem.W.Frag) (W : Wsh K) (m : IM) : TI := fun σ H R => ∃ Z ρ S ds, At K Z ρ S H σ ds ∧
  MP (m ds S) (fun items S1 => ∀ ρ' H' J G, Ext ρ H ρ' H' → Ok K Z ρ' S1 H' → Src K J items G → G Z ρ' H' → R J H') (W.P Z ρ H σ ds)
def PIm (X : Cx) (W : Wsh X.K) (tg iter : Expr) (m : IM) : Prop := PI X tg iter (tI X.K W m)
section
variable {K : PySem.W.Frag} {Z ρ ρ' : List Addr} {S S' : Sto} {H H' : Hp} {v : V} {d : D} {vs : List V} {ds : List D} {p : Addr}
theorem src_lst (a : Addr) (items : List D) : Src K (Itl K a) items fun Z ρ H => Is K Z ρ H (.ref a) (.lst items) where
  go := fun i Z ρ S H hi g k => by
    cases g with
    | lst h r =>
      obtain ⟨v, e, _⟩ := r.get (List.getElem?_eq_getElem hi)
      exact ⟨_, v, h.seq, e⟩
  stop := fun Z ρ S H g k => by
    cases g with
    | lst h r => exact ⟨_, h.seq, by rw [r.length]; exact Nat.le_refl _⟩
  yld := fun i d Z ρ S H x H' e g k y => by
    cases g with
    | lst h r =>
      obtain ⟨rfl, q⟩ := y
      obtain ⟨v, e2, iv⟩ := r.get e
      have e3 := q _ h.seq
      rw [e2] at e3; cases e3
      exact ⟨Ext.refl, k, iv⟩
  keep := fun Z Y ρ S H ρ' H' g k e => g.monoZ k e
  zw := fun Z ρ S H p vs o g k hp hl => g.zw k hp hl
  addZ := fun Z ρ H p g hp => g.addZ hp
theorem src_scr (a : Addr) (items : List D) : Src K (Itl K a) items fun Z ρ H => Is K Z ρ H (.ref a) (.scr items) where
  go := fun i Z ρ S H hi g k => by
    cases g with
    | scr h r =>
      obtain ⟨v, e, _⟩ := r.get (List.getElem?_eq_getElem hi)
      exact ⟨_, v, h.seq, e⟩
  stop := fun Z ρ S H g k => by
    cases g with
    | scr h r => exact ⟨_, h.seq, by rw [r.length]; exact Nat.le_refl _⟩
  yld := fun i d Z ρ S H x H' e g k y => by
    cases g with
    | scr h r =>
      obtain ⟨rfl, q⟩ := y
      obtain ⟨v, e2, iv⟩ := r.get e
      have e3 := q _ h.seq
      rw [e2] at e3; cases e3
      exact ⟨Ext.refl, k, iv⟩
  keep := fun Z Y ρ S H ρ' H' g k e => g.monoZ k e
  zw := fun Z ρ S H p vs o g k hp hl => g.zw k hp hl
  addZ := fun Z ρ H p g hp => g.addZ hp
theorem src_tup (a : Addr) (items : List D) : Src K (Itt K a) items fun Z ρ H => Is K Z ρ H (.ref a) (.tup items) where
  go := fun i Z ρ S H hi g k => by
    cases g with
    | tup h r =>
      obtain ⟨v, e, _⟩ := r.get (List.getElem?_eq_getElem hi)
      exact ⟨_, v, h, e⟩
  stop := fun Z ρ S H g k => by
    cases g with
    | tup h r => exact ⟨_, h, by rw [r.length]; exact Nat.le_refl _⟩
  yld := fun i d Z ρ S H x H' e g k y => by
    cases g with
    | tup h r =>
      obtain ⟨rfl, q⟩ := y
      obtain ⟨v, e2, iv⟩ := r.get e
      have e3 := q _ h
      rw [e2] at e3; cases e3
      exact ⟨Ext.refl, k, iv⟩
  keep := fun Z Y ρ S H ρ' H' g k e => g.monoZ k e
  zw := fun Z ρ S H p vs o g k hp hl => g.zw k hp hl
  addZ := fun Z ρ H p g hp => g.addZ hp
/-- the signs of a text -/
def signs (x : Str) : List D := x.cps.toList.map fun c => .str ⟨#[c]⟩
theorem src_str (x : Str) : Src K (Its x) (signs x) fun _ _ _ => True where
  go := fun i Z ρ S H hi _ k => by
    show i < x.cps.size
    simpa [signs] using hi
  stop := fun Z ρ S H _ k => by
    show x.cps.size ≤ (signs x).length
    simp [signs]
  yld := fun i d Z ρ S H v H' e _ k y => by
    obtain ⟨rfl, c, e2, rfl⟩ := y
    simp only [signs, List.getElem?_map, Array.getElem?_toList, e2] at e
    cases e
    exact ⟨Ext.refl, k, .str _⟩
  keep := fun _ _ _ _ _ _ _ _ _ _ => trivial
  zw := fun _ _ _ _ _ _ _ _ _ _ _ => trivial
  addZ := fun _ _ _ _ _ _ => trivial
def rngD (lo : Int) (n : Nat) : List D := (List.range n).map fun (i : Nat) => .int (lo + (i : Int))
theorem src_rng (lo : Int) (n : Nat) : Src K (Itr lo n) (rngD lo n) fun _ _ _ => True where
  go := fun i Z ρ S H hi _ k => by
    show i < n
    simpa [rngD] using hi
  stop := fun Z ρ S H _ k => by
    show n ≤ (rngD lo n).length
    simp [rngD]
  yld := fun i d Z ρ S H v H' e _ k y => by
    obtain ⟨rfl, rfl⟩ := y
    simp only [rngD, List.getElem?_map, Option.map_eq_some_iff] at e
    obtain ⟨j, e1, rfl⟩ := e
    have : j = i := by
      have := List.getElem?_eq_some_iff.mp e1
      obtain ⟨h1, h2⟩ := this
      rw [List.getElem_range] at h2
      exact h2.symm
    subst this
    exact ⟨Ext.refl, k, .int _⟩
  keep := fun _ _ _ _ _ _ _ _ _ _ => trivial
  zw := fun _ _ _ _ _ _ _ _ _ _ _ => trivial
  addZ := fun _ _ _ _ _ _ => trivial
end
section
variable {X : Cx} {W : Wsh X.K} {e e2 tg iter : Expr} {ma : EM} {ms : AM} {pos p tpos : Pos} {m : IM}
theorem PI.or {w1 w2 : TI} (h1 : PI X tg iter w1) (h2 : PI X tg iter w2) : PI X tg iter (fun σ H R => w1 σ H R ∨ w2 σ H R) := ⟨fun pins s σ H R I q => q.elim (h1.run pins s σ H R I) (h2.run pins s σ H R I)⟩
theorem PI.imp {w1 w2 : TI} (h1 : PI X tg iter w1) (h : ∀ σ H R, w2 σ H R → w1 σ H R) : PI X tg iter w2 := ⟨fun pins s σ H R I q => h1.run pins s σ H R I (h σ H R q)⟩
/-- lists, tuples, texts, the script -/
def mIter (ma : EM) : IM := fun ds => ma ds >>= fun x => match x with
  | .lst xs => pure xs
  | .scr xs => pure xs
  | .tup xs => pure xs
  | .str z => pure (signs z)
  | _ => stuck
theorem im_any (h : PEm X W e ma) : PIm X W tg e (mIter ma) :=
  PI.imp (PI.or (pi_list h) (PI.or (pi_tup h) (pi_str h))) fun σ H R ⟨Z, ρ, S, ds, t, h⟩ => by
    have hb := MP.bind h
    cases q : ma ds S with
    | no => rw [q] at hb; exact hb.elim
    | exc c v S1 =>
      rw [q] at hb
      exact .inl ⟨Z, ρ, S, ds, t, by rw [q]; exact hb⟩
    | ok d S1 =>
      rw [q] at hb
      cases d with
      | lst xs =>
        refine .inl ⟨Z, ρ, S, ds, t, ?_⟩
        rw [q]
        intro ρ' H' v e1 k1 i
        cases i with
        | @lst a vs _ hl r => exact ⟨a, rfl, ⟨vs, hl.seq⟩, (MP.pure hb) ρ' H' _ _ e1 k1 (src_lst a xs) (.lst hl r)⟩
      | scr xs =>
        refine .inl ⟨Z, ρ, S, ds, t, ?_⟩
        rw [q]
        intro ρ' H' v e1 k1 i
        cases i with
        | @scr a vs _ hl r => exact ⟨a, rfl, ⟨vs, hl.seq⟩, (MP.pure hb) ρ' H' _ _ e1 k1 (src_scr a xs) (.scr hl r)⟩
      | tup xs =>
        refine .inr (.inl ⟨Z, ρ, S, ds, t, ?_⟩)
        rw [q]
        intro ρ' H' v e1 k1 i
        cases i with
        | @tup a vs _ hl r => exact ⟨a, rfl, ⟨vs, hl⟩, (MP.pure hb) ρ' H' _ _ e1 k1 (src_tup a xs) (.tup hl r)⟩
      | str x =>
        refine .inr (.inr ⟨Z, ρ, S, ds, t, ?_⟩)
        rw [q]
        intro ρ' H' v e1 k1 i
        cases i with
        | str => exact ⟨_, rfl, (MP.pure hb) ρ' H' _ _ e1 k1 (src_str _) trivial⟩
      | non => exact hb.elim
      | bl _ => exact hb.elim
      | int _ => exact hb.elim
      | cell _ => exact hb.elim
      | ty _ => exact hb.elim
/-- range -/
def mRng1 (ms : AM) : IM := fun ds => ms ds >>= fun xs => match xs with
  | [.int j] => if j ≤ 1000000 ∧ -1000000 ≤ j then pure (rngD 0 j.toNat) else stuck
  | _ => stuck
def mRng2 (ms : AM) : IM := fun ds => ms ds >>= fun xs => match xs with
  | [.int i, .int j] => if -1000000000000 ≤ i ∧ i ≤ 1000000000000 ∧ -1000000000000 ≤ j ∧ j ≤ 1000000000000 then pure (rngD i (j - i).toNat) else stuck
  | _ => stuck
theorem im_rng1 {a : Expr} (hg : Gl X "range") (hm : X.mg "range" = none) (ha : PAm X W [a] ms) (hs : starEach [a] X.env = [(false, eval a X.env)] := by rfl) : PIm X W tg (.Call (.Name "range" p) [a] [] pos) (mRng1 ms) :=
  PI.imp (pi_range1 hg hm ha hs) fun σ H R ⟨Z, ρ, S, ds, t, h⟩ => tA_bind t h fun xs S1 ρ1 H1 vs e1 t1 i q => by
    split at q
    · rename_i j
      obtain ⟨v, rfl, iv⟩ := is1 i
      cases iv
      by_cases hj : j ≤ 1000000 ∧ -1000000 ≤ j
      · rw [if_pos hj] at q
        exact ⟨j, rfl, by omega, by omega, (MP.pure q) ρ1 H1 _ _ e1 t1.ok (src_rng 0 j.toNat) trivial⟩
      · rw [if_neg hj] at q; exact q.elim
    · exact q.elim
theorem im_rng2 {a b : Expr} (hg : Gl X "range") (hm : X.mg "range" = none) (ha : PAm X W [a, b] ms) (hs : starEach [a, b] X.env = [(false, eval a X.env), (false, eval b X.env)] := by rfl) (hs2 : starEach [b] X.env = [(false, eval b X.env)] := by rfl) :
    PIm X W tg (.Call (.Name "range" p) [a, b] [] pos) (mRng2 ms) :=
  PI.imp (pi_range2 hg hm ha hs hs2) fun σ H R ⟨Z, ρ, S, ds, t, h⟩ => tA_bind t h fun xs S1 ρ1 H1 vs e1 t1 i q => by
    split at q
    · rename_i j l
      obtain ⟨v, w, rfl, iv, iw⟩ := is2 i
      cases iv; cases iw
      by_cases hj : -1000000000000 ≤ j ∧ j ≤ 1000000000000 ∧ -1000000000000 ≤ l ∧ l ≤ 1000000000000
      · rw [if_pos hj] at q
        exact ⟨j, l, rfl, ⟨by omega, by omega, by omega, by omega⟩, (MP.pure q) ρ1 H1 _ _ e1 t1.ok (src_rng j (l - j).toNat) trivial⟩
      · rw [if_neg hj] at q; exact q.elim
    · exact q.elim
end
/-! ### for -/
/-- behind a turn -/
def afterTurn (next : En → M Fl) : Fl → M Fl
  | .nx ds => next ds
  | .ct ds => next ds
  | .bk ds => pure (.nx ds)
  | .rt d => pure (.rt d)
  | .ex c v ds => pure (.ex c v ds)
def loopM (g : GM) (body : SM) : List D → SM
  | [], ds => pure (.nx ds)
  | x :: xs, ds => M.tr (g x ds) ds fun ds1 => body ds1 >>= afterTurn (loopM g body xs)
def mFor (m : IM) (g : GM) (body : SM) : SM := fun ds => M.tr (m ds) ds fun items => loopM g body items ds
section
variable {X : Cx} {W : Wsh X.K} {tg iter : Expr} {m : IM} {g : GM} {mb : SM} {body : List Stmt} {pos : Pos}
theorem sm_for (hp : PassesOwn (model X.prog X.w) X.A X.env X.xe) (hc : X.calm = true) (hi : PIm X W tg iter m) (hg : PGm X W tg g) (hb : PSsm X W body mb)
    (hs : ∀ x, foldedSetIterable iter X.env x = pure x := by intro _; rfl) : PSm X W (.For tg iter body [] pos) (mFor m g mb) :=
  PS.imp (ps_for hp hc hi hg hb hs) fun D σ H ⟨Z, ρ, S, ds, t, h⟩ => by
    refine ⟨Z, ρ, S, ds, t, (MP.tr t h).imp (fun items S1 q ρ1 H1 J G e1 k1 sr g1 => ?_) fun _ _ _ z => z⟩
    refine ⟨fun i n σ' H' => n = items.length - i ∧ i ≤ items.length ∧ ∃ ρi Si dsi, At X.K Z ρi Si H' σ' dsi ∧ G Z ρi H' ∧ MP (loopM g mb (items.drop i) dsi Si) (PtS X.K W Z ρi H' D) No,
      ⟨items.length, by simp, Nat.zero_le _, ρ1, S1, ds, t.up e1 k1, g1, by rw [List.drop_zero]; exact q.imp (fun _ _ z => z.up e1) fun _ _ _ z => z⟩, ?_⟩
    rintro i n σ' H' ⟨rfl, hi, ρi, Si, dsi, ti, gi, q⟩
    by_cases hlt : i < items.length
    · rw [List.drop_eq_getElem_cons hlt] at q
      refine .inr ⟨sr.go i Z ρi Si H' hlt gi ti.ok, fun σ2 H2 => ∃ ρ2 S2 ds2, At X.K Z ρ2 S2 H2 σ2 ds2 ∧ G Z ρ2 H2 ∧ MP (loopM g mb (items.drop (i + 1)) ds2 S2) (PtS X.K W Z ρ2 H2 D) No,
        fun σ2 H2 ⟨ρ2, S2, ds2, t2, g2, q2⟩ => ⟨items.length - (i + 1), by omega, rfl, hlt, ρ2, S2, ds2, t2, g2, q2⟩, fun x H2 y => ?_⟩
      obtain ⟨e2, k2, ix⟩ := sr.yld i _ Z ρi Si H' x H2 (List.getElem?_eq_getElem hlt) gi ti.ok y
      have t2 := ti.up e2 k2
      have g2 := sr.keep Z Z ρi Si H' ρi H2 gi ti.ok e2
      have q2 := q.imp (P' := PtS X.K W Z ρi H2 D) (E' := No) (fun _ _ z => z.up e2) fun _ _ _ z => z
      refine ⟨Z, ρi, Si, dsi, _, t2, ix, (MP.tr t2 q2).imp (fun ds3 S3 q3 ρ3 H3 σ3 e3 t3 => ?_) fun _ _ _ z => z⟩
      refine ⟨Z, ρ3, S3, ds3, t3, (MP.bind q3).imp (fun fl S4 q4 => ?_) fun _ _ _ z => z⟩
      have g3 := sr.keep Z Z ρi Si H2 ρ3 H3 g2 t2.ok e3
      cases fl with
      | nx ds4 => exact fun ρ4 H4 σ4 e4 t4 => ⟨ρ4, S4, ds4, t4, sr.keep Z Z ρ3 S3 H3 ρ4 H4 g3 t3.ok e4, (show MP (loopM g mb (items.drop (i + 1)) ds4 S4) _ _ from q4).imp (fun _ _ z => z.up (e3.trans e4)) fun _ _ _ z => z⟩
      | ct ds4 => exact fun ρ4 H4 σ4 e4 t4 => ⟨ρ4, S4, ds4, t4, sr.keep Z Z ρ3 S3 H3 ρ4 H4 g3 t3.ok e4, (show MP (loopM g mb (items.drop (i + 1)) ds4 S4) _ _ from q4).imp (fun _ _ z => z.up (e3.trans e4)) fun _ _ _ z => z⟩
      | bk ds4 => exact fun ρ4 H4 σ4 e4 t4 => (MP.pure q4 : PtS _ _ _ _ _ _ _ _) ρ4 H4 σ4 (e3.trans e4) t4
      | rt d => exact fun ρ4 H4 v e4 k4 i4 => (MP.pure q4 : PtS _ _ _ _ _ _ _ _) ρ4 H4 v (e3.trans e4) k4 i4
      | ex c v ds4 => exact fun ρ4 H4 σ4 S5 e4 t4 => (MP.pure q4 : PtS _ _ _ _ _ _ _ _) ρ4 H4 σ4 S5 (e3.trans e4) t4
    · have e : i = items.length := by omega
      subst e
      rw [List.drop_length] at q
      exact .inl ⟨sr.stop Z ρi Si H' gi ti.ok, (MP.pure q : PtS _ _ _ _ _ _ _ _) ρi H' σ' Ext.refl ti⟩
end
end Pv

/-! Pv12: list comprehensions, while. -/
namespace Pv
open PySem PySem.Spec PyProof.Rows L2
/-! ### the block's own slots -/
def wipeD (ds : En) : List Nat → En
  | [] => ds
  | v :: vs => (wipeD ds vs).set v none
theorem wipeD_length (ds : En) : ∀ vs : List Nat, (wipeD ds vs).length = ds.length
  | [] => rfl
  | v :: vs => by unfold wipeD; rw [List.length_set, wipeD_length ds vs]
theorem wipeD_some {ds : En} {i : Nat} {x : D} : ∀ {vs : List Nat}, (wipeD ds vs)[i]? = some (some x) → ds[i]? = some (some x) ∧ i ∉ vs
  | [], h => ⟨h, by simp⟩
  | v :: vs, h => by
    unfold wipeD at h
    by_cases hi : v = i
    · subst hi
      by_cases hv : v < (wipeD ds vs).length
      · rw [List.getElem?_set_self hv] at h; cases h
      · rw [List.getElem?_eq_none (by simpa using hv)] at h; cases h
    · rw [List.getElem?_set_ne hi] at h
      obtain ⟨h1, h2⟩ := wipeD_some h
      exact ⟨h1, by simp only [List.mem_cons, not_or]; exact ⟨fun e => hi e.symm, h2⟩⟩
theorem EnvIs.wipe {K : PySem.W.Frag} {Z ρ : List Addr} {H : Hp} {σ : L2.St} {ds : En} (n : EnvIs K Z ρ H σ ds) (vs : List Nat) : EnvIs K Z ρ H (wipe σ vs) (wipeD ds vs) :=
  ⟨by rw [wipeD_length, wipe_length]; exact n.len, fun i d h => by
    obtain ⟨h1, h2⟩ := wipeD_some h
    obtain ⟨v, a, b⟩ := n.get i d h1
    exact ⟨v, by rw [wipe_out h2]; exact a, b⟩⟩
theorem wipe_get (σ : L2.St) (j : Nat) : ∀ vs : List Nat, (wipe σ vs)[j]? = if j ∈ vs then σ[j]?.map (fun _ => none) else σ[j]?
  | [] => by simp [L2.wipe]
  | v :: vs => by
    unfold L2.wipe
    by_cases hv : v = j
    · subst hv
      rw [if_pos List.mem_cons_self]
      by_cases hl : v < σ.length
      · rw [List.getElem?_set_self (by rw [wipe_length]; exact hl), List.getElem?_eq_getElem hl]; rfl
      · rw [List.getElem?_eq_none (by rw [List.length_set, wipe_length]; omega), List.getElem?_eq_none (by omega)]; rfl
    · rw [List.getElem?_set_ne hv, wipe_get σ j vs]
      by_cases hm : j ∈ vs
      · rw [if_pos hm, if_pos (List.mem_cons_of_mem _ hm)]
      · rw [if_neg hm, if_neg (fun z => (List.mem_cons.mp z).elim (fun e => hv e.symm) hm)]
theorem wipe_in {σ : L2.St} {x : Option V} {i : Nat} {vs : List Nat} (h : i ∈ vs) : wipe (σ.set i x) vs = wipe σ vs := by
  apply List.ext_getElem?
  intro j
  rw [wipe_get, wipe_get]
  by_cases hm : j ∈ vs
  · rw [if_pos hm, if_pos hm]
    by_cases e : i = j
    · subst e
      by_cases hl : i < σ.length
      · rw [List.getElem?_set_self hl, List.getElem?_eq_getElem hl]; rfl
      · rw [List.getElem?_eq_none (by rw [List.length_set]; omega), List.getElem?_eq_none (by omega)]
    · rw [List.getElem?_set_ne e]
  · rw [if_neg hm, if_neg hm, List.getElem?_set_ne (fun z : i = j => hm (by rw [← z]; exact h))]
theorem wipe_twice (σ : L2.St) (vs : List Nat) : wipe (wipe σ vs) vs = wipe σ vs := by
  apply List.ext_getElem?
  intro j
  rw [wipe_get, wipe_get]
  by_cases hm : j ∈ vs
  · rw [if_pos hm, if_pos hm, Option.map_map]; rfl
  · rw [if_neg hm, if_neg hm]
/-! ### the target of a clause -/
def tGw (K : PySem.W.Frag) (vs : List Nat) (m : D → En → Option En) : TG := fun v σ H Q => ∃ Z ρ S ds ds1 d, At K Z ρ S H σ ds ∧ Is K Z ρ H v d ∧ m d ds = some ds1 ∧ ∀ σ', wipe σ' vs = wipe σ vs → At K Z ρ S H σ' ds1 → Q σ' H
abbrev BM := D → En → Option En
def PGw (X : Cx) (tg : Expr) (vs : List Nat) (m : BM) : Prop := PG X tg (tGw X.K vs m)
def bName (i : Nat) : BM := fun d ds => some (ds.set i (some d))
section
variable {X : Cx} {pos : Pos}
theorem gw_name {vs : List Nat} {i : Nat} {x : Str} (hv : i ∈ vs) (hN : X.N.Nodup) (hi : X.N[i]? = some x) (hx : Loc X.env.scope x) (hf : X.fn x = true ∨ X.env.scope.names.lookup x = some .local := by first | exact .inl rfl | exact .inr rfl | assumption) : PGw X (.Name x pos) vs (bName i) :=
  PG.imp (pg_name hN hi hx hf) fun v σ H Q ⟨Z, ρ, S, ds, ds1, d, t, i, e, h⟩ => by
    cases e
    exact h _ (wipe_in hv) ⟨t.ok, t.env.set _ i⟩
def tGsw (K : PySem.W.Frag) (vs is : List Nat) : TGs := fun us σ H Q => ∃ Z ρ S ds xs, At K Z ρ S H σ ds ∧ IsAll K Z ρ H us xs ∧ xs.length = is.length ∧ ∀ σ', wipe σ' vs = wipe σ vs → At K Z ρ S H σ' (setAll is xs ds) → Q σ' H
def PGsw (X : Cx) (ts : List Expr) (vs is : List Nat) : Prop := PGs X ts (tGsw X.K vs is)
theorem gsw_nil {vs : List Nat} : PGsw X [] vs [] := PGs.imp pgs_nil fun us σ H Q ⟨Z, ρ, S, ds, xs, t, i, l, h⟩ => by
  cases xs with
  | nil => cases i; exact ⟨rfl, h σ rfl t⟩
  | cons a b => simp at l
theorem gsw_cons {vs : List Nat} {i : Nat} {x : Str} {es : List Expr} {is : List Nat} (hv : i ∈ vs) (hN : X.N.Nodup) (hi : X.N[i]? = some x) (hx : Loc X.env.scope x) (h : PGsw X es vs is) (hf : X.fn x = true ∨ X.env.scope.names.lookup x = some .local := by first | exact .inl rfl | exact .inr rfl | assumption)
    (hs : (assignEach (.Name x pos :: es) X.env).map (·.2) = assign (.Name x pos) X.env :: (assignEach es X.env).map (·.2) := by rfl) : PGsw X (.Name x pos :: es) vs (i :: is) :=
  PGs.imp (pgs_cons (pg_name hN hi hx hf) h hs) fun us σ H Q ⟨Z, ρ, S, ds, xs, t, ia, l, q⟩ => by
    cases ia with
    | nil => simp at l
    | cons iv r => exact ⟨_, _, rfl, Z, ρ, S, _, _, ⟨t.ok, t.env.set _ iv⟩, r, by simpa using l, fun σ' w t' => q σ' (w.trans (wipe_in hv)) t'⟩
def bTup (is : List Nat) : BM := fun d ds => match d with
  | .tup xs => if xs.length = is.length then some (setAll is xs ds) else none
  | _ => none
theorem gw_tup {vs : List Nat} {es : List Expr} {k : Nat} {is : List Nat} (hc : X.calm = true) (h : PGsw X es vs is) (hn : (assignEach es X.env).length = is.length := by rfl) (hst : (assignEach es X.env).findIdx? (·.1) = none := by rfl) : PGw X (.Tuple es k pos) vs (bTup is) :=
  PG.imp (pg_tup hc h hn hst) fun v σ H Q ⟨Z, ρ, S, ds, ds1, d, t, ia, e, q⟩ => by
    cases ia with
    | @tup a us xs hq r =>
      unfold bTup at e
      obtain ⟨hl, rfl⟩ := of_if e
      exact ⟨_, us, rfl, hq, by rw [r.length]; exact hl, Z, ρ, S, ds, xs, t, r, hl, fun σ' w t' => q σ' w t'⟩
    | _ => cases e
end
/-! ### the comprehension -/
/-- what lets no exception out -/
def M.cl {α : Type} (m : M α) : M α := fun S => match m S with
  | .ok a S' => .ok a S'
  | _ => .no
theorem MP.cl {α : Type} {m : M α} {S : Sto} {P : α → Sto → Prop} {E E' : Str → D → Sto → Prop} (h : MP (M.cl m S) P E) : MP (m S) P E' := by
  unfold M.cl at h
  cases e : m S with
  | ok a S1 => rw [e] at h; exact h
  | exc c v S1 => rw [e] at h; exact h.elim
  | no => rw [e] at h; exact h.elim
def compM (g : BM) (mt : TM) (me : EM) (ds : En) : List D → M (List D)
  | [] => pure []
  | x :: xs => M.of (g x ds) >>= fun ds1 => M.cl (mt ds1) >>= fun b => if b = true then M.cl (me ds1) >>= fun y => compM g mt me ds xs >>= fun ys => pure (y :: ys) else compM g mt me ds xs
def mComp (m : IM) (g : BM) (mt : TM) (me : EM) (vs : List Nat) : EM := fun ds => m ds >>= fun items => if items.length ≤ 1000000 then compM g mt me (wipeD ds vs) items >>= fun ys => pure (.lst ys) else stuck
/-- .. as a list that is to change -/
def mCompC (m : IM) (g : BM) (mt : TM) (me : EM) (vs : List Nat) : EM := fun ds => m ds >>= fun items => if items.length ≤ 1000000 then compM g mt me (wipeD ds vs) items >>= fun ys => M.lift (newCell ys) else stuck
def mYes : TM := fun _ => pure true
def PTsm (X : Cx) (W : Wsh X.K) (ifs : List Expr) (m : TM) : Prop := PTs X ifs (tT X.K W m)
theorem tsm_nil {X : Cx} {W : Wsh X.K} : PTsm X W [] mYes := ⟨fun pins s σ H Q I ⟨Z, ρ, S, ds, t, h⟩ => pts_nil.run pins s σ H Q I ((MP.pure h : PtB _ _ _ _ _ _ _) ρ H Ext.refl t.ok)⟩
theorem tsm_one {X : Cx} {W : Wsh X.K} {c : Expr} {m : TM} (h : PTm X W c m) : PTsm X W [c] m := pts_one h
theorem comp_of {K : PySem.W.Frag} {W : Wsh K} {m : IM} {g : BM} {mt : TM} {me : EM} {vs : List Nat} {σ : L2.St} {H : Hp} {Q : VK} {fin : List D → M D}
    (hfin : ∀ (ys : List D) (Z ρ ρ1 : List Addr) (S : Sto) (H H1 : Hp) (p : Addr) (acc : List V) (E : Str → D → Sto → Prop), H1 p = none → p ∉ Z → Ext ρ1 H1 ρ H → Ok K (p :: Z) ρ S H → H p = some (.lst acc) → acc.length ≤ 1000000 → IsAll K (p :: Z) ρ H acc ys → MP (fin ys S) (Pt K Z ρ1 H1 Q) E → Q (.ref p) H)
    (h : tE K W (fun ds => m ds >>= fun items => if items.length ≤ 1000000 then compM g mt me (wipeD ds vs) items >>= fin else stuck) σ H Q) :
    tLc (tI K W m) (tGw K vs g) (tT K (W0 K) mt) (tE K (W0 K) me) vs σ H Q := by
  obtain ⟨Z, ρ, S, ds, t, h⟩ := h
  refine ⟨Z, ρ, S, ds, t, (MP.bind h).imp (fun items S1 q ρ1 H1 J G e1 k1 sr g1 D hD => ?_) fun _ _ _ z => z⟩
  by_cases hz : items.length ≤ 1000000
  · rw [if_pos hz] at q
    have q := MP.bind q
    have t1 := t.up e1 k1
    have hDZ : D ∉ Z := t1.ok.nz hD
    refine ⟨fun i n H' => n = items.length - i ∧ i ≤ items.length ∧ ∃ ρi Si acc ya, Ext ρ1 H1 ρi H' ∧ At K (D :: Z) ρi Si H' (wipe σ vs) (wipeD ds vs) ∧ G (D :: Z) ρi H' ∧ H' D = some (.lst acc) ∧ acc.length ≤ i ∧ IsAll K (D :: Z) ρi H' acc ya ∧
      MP (compM g mt me (wipeD ds vs) (items.drop i) Si) (fun ys S' => MP (fin (ya ++ ys) S') (Pt K Z ρ1 H1 Q) (fun _ _ _ => True)) (fun _ _ _ => True),
      ⟨items.length, by simp, Nat.zero_le _, ρ1, S1, [], [], Ext.refl.at hD, ⟨t1.ok.addZ hD, ((t1.env.addZ hD).monoZ t1.ok (ext_new hD)).wipe vs⟩, ?_, upd_same, Nat.zero_le _, .nil, ?_⟩, ?_⟩
    · exact sr.keep (D :: Z) Z ρ1 S1 H1 ρ1 _ (sr.addZ Z ρ1 H1 D g1 hD) t1.ok (ext_new hD)
    · rw [List.drop_zero]
      exact q.imp (fun ys S' z => by rw [List.nil_append]; exact z.imp (fun _ _ w => w.up e1) fun _ _ _ _ => trivial) fun _ _ _ _ => trivial
    rintro i n H5 ⟨rfl, hi, ρi, Si, acc, ya, e5, t5, g5, h5, l5, a5, q5⟩
    by_cases hlt : i < items.length
    · rw [List.drop_eq_getElem_cons hlt] at q5
      refine .inr ⟨sr.go i (D :: Z) ρi Si H5 hlt g5 t5.ok, fun H' => ∃ ρ' S' acc ya, Ext ρ1 H1 ρ' H' ∧ At K (D :: Z) ρ' S' H' (wipe σ vs) (wipeD ds vs) ∧ G (D :: Z) ρ' H' ∧ H' D = some (.lst acc) ∧ acc.length ≤ i + 1 ∧ IsAll K (D :: Z) ρ' H' acc ya ∧
        MP (compM g mt me (wipeD ds vs) (items.drop (i + 1)) S') (fun ys S' => MP (fin (ya ++ ys) S') (Pt K Z ρ1 H1 Q) (fun _ _ _ => True)) (fun _ _ _ => True),
        fun H' z => ⟨items.length - (i + 1), by omega, rfl, hlt, z⟩, fun x H6 y => ?_⟩
      obtain ⟨e6, k6, ix⟩ := sr.yld i _ (D :: Z) ρi Si H5 x H6 (List.getElem?_eq_getElem hlt) g5 t5.ok y
      have t6 := t5.up e6 k6
      have g6 := sr.keep (D :: Z) (D :: Z) ρi Si H5 ρi H6 g5 t5.ok e6
      obtain ⟨ds1, e7, q7⟩ := MP.of (MP.bind q5)
      refine ⟨D :: Z, ρi, Si, _, ds1, _, t6, ix, e7, fun σ7 w7 t7 => ⟨w7.trans (by rw [wipe_twice]), ?_⟩⟩
      refine ⟨D :: Z, ρi, Si, ds1, t7, (MP.cl (MP.bind q7)).imp (fun b S8 q8 ρ8 H8 e8 k8 => ?_) fun _ _ _ z => z⟩
      have DD : ∀ {ρ' : List Addr} {H' : Hp}, Ext ρi H5 ρ' H' → H' D = some (.lst acc) := fun e => e.keep D _ (fun z => t5.ok.zd D z List.mem_cons_self) h5
      cases b with
      | false =>
        rw [if_neg Bool.false_ne_true] at q8
        show ∃ ρ' S' acc ya, _
        exact ⟨ρ8, S8, acc, ya, e5.trans (e6.trans e8), ⟨k8, t6.env.mono t6.ok e8⟩, sr.keep (D :: Z) (D :: Z) ρi Si H6 ρ8 H8 g6 k6 e8, DD (e6.trans e8), by omega, (a5.mono t5.ok e6).mono t6.ok e8, q8⟩
      | true =>
        rw [if_pos rfl] at q8
        show tE _ _ _ _ _ _
        refine ⟨D :: Z, ρ8, S8, ds1, t7.up e8 k8, (MP.cl (MP.bind q8)).imp (fun y S9 q9 ρ9 H9 v9 e9 k9 i9 => ?_) fun _ _ _ z => z⟩
        have t8 := t6.up e8 k8
        have h9 := DD ((e6.trans e8).trans e9)
        refine ⟨acc, h9, by rw [sizeLine_eq]; omega, ρ9, S9, acc ++ [v9], ya ++ [y], ((e5.trans (e6.trans e8)).trans e9).at hD, ⟨k9.zw List.mem_cons_self h9, (t8.env.mono t8.ok e9).zw k9 List.mem_cons_self h9⟩, ?_, upd_same, by rw [List.length_append]; simp; omega, ?_, ?_⟩
        · exact sr.zw (D :: Z) ρ9 S9 H9 D acc _ (sr.keep (D :: Z) (D :: Z) ρ8 S8 H8 ρ9 H9 (sr.keep (D :: Z) (D :: Z) ρi Si H6 ρ8 H8 g6 k6 e8) k8 e9) k9 List.mem_cons_self h9
        · exact ((((a5.mono t5.ok e6).mono t6.ok e8).mono t8.ok e9).append (.cons i9 .nil)).zw k9 List.mem_cons_self h9
        · refine (MP.bind q9).imp (fun ys S10 z => ?_) fun _ _ _ z => z
          rw [List.append_assoc]
          exact (MP.pure z : _)
    · have e : i = items.length := by omega
      subst e
      rw [List.drop_length] at q5
      have q6 := (MP.pure q5 : MP (fin (ya ++ []) Si) _ _)
      rw [List.append_nil] at q6
      exact .inl ⟨sr.stop (D :: Z) ρi Si H5 g5 t5.ok, hfin ya Z ρi ρ1 Si H5 H1 D acc _ hD hDZ e5 t5.ok h5 (by omega) a5 q6⟩
  · rw [if_neg hz] at q; exact q.elim
theorem fin_lst {K : PySem.W.Frag} {Q : VK} : ∀ (ys : List D) (Z ρ ρ1 : List Addr) (S : Sto) (H H1 : Hp) (p : Addr) (acc : List V) (E : Str → D → Sto → Prop), H1 p = none → p ∉ Z → Ext ρ1 H1 ρ H → Ok K (p :: Z) ρ S H → H p = some (.lst acc) → acc.length ≤ 1000000 → IsAll K (p :: Z) ρ H acc ys →
    MP ((pure (.lst ys) : M D) S) (Pt K Z ρ1 H1 Q) E → Q (.ref p) H := fun ys Z ρ ρ1 S H H1 p acc E h1 hz e k hl hn r q =>
  (MP.pure q : Pt _ _ _ _ _ _ _) ρ H _ e k.delZ (.lst ⟨hl, fun z => k.zd p z List.mem_cons_self, hz⟩ r.delZ)
theorem fin_cell {K : PySem.W.Frag} {Q : VK} : ∀ (ys : List D) (Z ρ ρ1 : List Addr) (S : Sto) (H H1 : Hp) (p : Addr) (acc : List V) (E : Str → D → Sto → Prop), H1 p = none → p ∉ Z → Ext ρ1 H1 ρ H → Ok K (p :: Z) ρ S H → H p = some (.lst acc) → acc.length ≤ 1000000 → IsAll K (p :: Z) ρ H acc ys →
    MP (M.lift (newCell ys) S) (Pt K Z ρ1 H1 Q) E → Q (.ref p) H := fun ys Z ρ ρ1 S H H1 p acc E h1 hz e k hl hn r q => by
  obtain ⟨d, S2, e2, q2⟩ := MP.lift q
  obtain ⟨_, e3⟩ := of_if e2
  cases e3
  have e4 : Ext ρ1 H1 (ρ ++ [p]) H := ⟨by
    obtain ⟨m, a, b⟩ := e.more
    exact ⟨m ++ [p], by rw [a, List.append_assoc], fun x hx => (List.mem_append.mp hx).elim (b x) fun hx => by rw [List.mem_singleton.mp hx]; exact h1⟩, e.keep, e.there⟩
  exact q2 _ H _ e4 (k.toC hz hl r) (.cell (by rw [← k.len]; simp))
section
variable {X : Cx} {W : Wsh X.K} {elt tg iter : Expr} {ifs : List Expr} {scope : Scope} {own : List (Str × Nat)} {pos : Pos} {m : IM} {g : BM} {mt : TM} {me : EM}
/-- what the parts of a block must show -/
structure Blk (X : Cx) (elt tg : Expr) (ifs : List Expr) (scope : Scope) (own : List (Str × Nat)) (g : BM) (mt : TM) (me : EM) : Prop where
  ok : BlkOk X.N X.env.scope scope own
  tg : ∀ (s : Shared) (H : Hp) (C : Addr) (cl : List (Str × Addr)) (fp : List Addr), PGw (X.blk s H scope (compEnvC scope cl C X.env) fp) tg (own.map (·.2)) g
  ifs : ∀ (s : Shared) (H : Hp) (C : Addr) (cl : List (Str × Addr)) (fp : List Addr), PTsm (X.blk s H scope (compEnvC scope cl C X.env) fp) (W0 X.K) ifs mt
  elt : ∀ (s : Shared) (H : Hp) (C : Addr) (cl : List (Str × Addr)) (fp : List Addr), PEm (X.blk s H scope (compEnvC scope cl C X.env) fp) (W0 X.K) elt me
theorem em_comp (hc : X.calm = true) (hN : X.N.Nodup) (hi : PIm X W tg iter m) (b : Blk X elt tg ifs scope own g mt me) (hs : ∀ x, foldedSetIterable iter X.env x = pure x := by intro _; rfl) :
    PEm X W (.ListComp elt [⟨tg, iter, ifs, 0⟩] scope pos) (mComp m g mt me (own.map (·.2))) :=
  PE.imp (pe_lc (g := tGw X.K (own.map fun x : Str × Nat => x.2) g) (tt := tT X.K (W0 X.K) mt) (te := tE X.K (W0 X.K) me) hc hN hi b.ok (fun s H C cl fp => b.tg s H C cl fp) (fun s H C cl fp => b.ifs s H C cl fp) (fun s H C cl fp => b.elt s H C cl fp) hs) fun σ H Q h => comp_of fin_lst h
theorem em_compC (hc : X.calm = true) (hN : X.N.Nodup) (hi : PIm X W tg iter m) (b : Blk X elt tg ifs scope own g mt me) (hs : ∀ x, foldedSetIterable iter X.env x = pure x := by intro _; rfl) :
    PEm X W (.ListComp elt [⟨tg, iter, ifs, 0⟩] scope pos) (mCompC m g mt me (own.map (·.2))) :=
  PE.imp (pe_lc (g := tGw X.K (own.map fun x : Str × Nat => x.2) g) (tt := tT X.K (W0 X.K) mt) (te := tE X.K (W0 X.K) me) hc hN hi b.ok (fun s H C cl fp => b.tg s H C cl fp) (fun s H C cl fp => b.ifs s H C cl fp) (fun s H C cl fp => b.elt s H C cl fp) hs) fun σ H Q h => comp_of fin_cell h
theorem tAsg_name {te : TE} {ma : EM} {i : Nat} (himp : ∀ σ H Q, tE X.K W ma σ H Q → te σ H Q) {D : Ends} {σ : L2.St} {H : Hp} (h : tS X.K W (mSet i ma) D σ H) : tAsg te (gName i) D σ H :=
  himp σ H _ (set_of h)
theorem sm_comp {i : Nat} {y : Str} {py spos : Pos} (hc : X.calm = true) (hN : X.N.Nodup) (hy : X.N[i]? = some y) (hyl : X.env.scope.names.lookup y = some .local)
    (hi : PIm X W tg iter m) (b : Blk X elt tg ifs scope own g mt me) (hsw : swapsWith (.ListComp elt [⟨tg, iter, ifs, 0⟩] scope pos) (some (.Name y py)) spos.line X.env = pure true) (hs : ∀ x, foldedSetIterable iter X.env x = pure x := by intro _; rfl) :
    PSm X W (.Assign [.Name y py] (.ListComp elt [⟨tg, iter, ifs, 0⟩] scope pos) spos) (mSet i (mComp m g mt me (own.map (·.2)))) :=
  PS.imp (ps_setLc (g := tGw X.K (own.map fun x : Str × Nat => x.2) g) (tt := tT X.K (W0 X.K) mt) (te := tE X.K (W0 X.K) me) hc hN hy hyl hsw hi b.ok (fun s H C cl fp => b.tg s H C cl fp) (fun s H C cl fp => b.ifs s H C cl fp) (fun s H C cl fp => b.elt s H C cl fp) hs) fun D σ H h => tAsg_name (W := W) (ma := mComp m g mt me (own.map fun x : Str × Nat => x.2)) (fun σ H Q h => comp_of fin_lst h) h
theorem sm_compC {i : Nat} {y : Str} {py spos : Pos} (hc : X.calm = true) (hN : X.N.Nodup) (hy : X.N[i]? = some y) (hyl : X.env.scope.names.lookup y = some .local)
    (hi : PIm X W tg iter m) (b : Blk X elt tg ifs scope own g mt me) (hsw : swapsWith (.ListComp elt [⟨tg, iter, ifs, 0⟩] scope pos) (some (.Name y py)) spos.line X.env = pure true) (hs : ∀ x, foldedSetIterable iter X.env x = pure x := by intro _; rfl) :
    PSm X W (.Assign [.Name y py] (.ListComp elt [⟨tg, iter, ifs, 0⟩] scope pos) spos) (mSet i (mCompC m g mt me (own.map (·.2)))) :=
  PS.imp (ps_setLc (g := tGw X.K (own.map fun x : Str × Nat => x.2) g) (tt := tT X.K (W0 X.K) mt) (te := tE X.K (W0 X.K) me) hc hN hy hyl hsw hi b.ok (fun s H C cl fp => b.tg s H C cl fp) (fun s H C cl fp => b.ifs s H C cl fp) (fun s H C cl fp => b.elt s H C cl fp) hs) fun D σ H h => tAsg_name (W := W) (ma := mCompC m g mt me (own.map fun x : Str × Nat => x.2)) (fun σ H Q h => comp_of fin_cell h) h
end
/-! ### while -/
def whileM (c : TM) (body : SM) : Nat → SM
  | 0 => fun _ => stuck
  | n + 1 => fun ds => M.tr (c ds) ds fun b => if b = true then body ds >>= afterTurn (whileM c body n) else pure (.nx ds)
/-- fuel: any number that is enough -/
def mWhile (fuel : En → Sto → Nat) (c : TM) (body : SM) : SM := fun ds S => whileM c body (fuel ds S) ds S
theorem sm_while {X : Cx} {W : Wsh X.K} {c : Expr} {body : List Stmt} {pos : Pos} {mt : TM} {mb : SM} (fuel : En → Sto → Nat) (hp : PassesOwn (model X.prog X.w) X.A X.env X.xe) (hc : PTm X W c mt) (hb : PSsm X W body mb) : PSm X W (.While c body [] pos) (mWhile fuel mt mb) :=
  PS.imp (ps_while hp hc hb) fun D σ H ⟨Z, ρ, S, ds, t, h⟩ => by
    refine ⟨fun n σ' H' => ∃ ρi Si dsi, At X.K Z ρi Si H' σ' dsi ∧ MP (whileM mt mb n dsi Si) (PtS X.K W Z ρi H' D) No, ⟨fuel ds S, ρ, S, ds, t, h⟩, ?_⟩
    rintro n σ1 H1 ⟨ρ1, S1, ds1, t1, q1⟩
    cases n with
    | zero => exact q1.elim
    | succ n =>
      refine ⟨Z, ρ1, S1, ds1, t1, (MP.tr t1 q1).imp (fun b S2 q2 ρ2 H2 e2 k2 => ?_) fun _ _ _ z => z⟩
      have t2 := t1.up e2 k2
      cases b with
      | false =>
        rw [if_neg Bool.false_ne_true] at q2
        exact (MP.pure q2 : PtS _ _ _ _ _ _ _ _) ρ2 H2 σ1 e2 t2
      | true =>
        rw [if_pos rfl] at q2
        show ∃ N : L2.St → Hp → Prop, _ ∧ _
        refine ⟨fun σ' H' => ∃ ρi Si dsi, At X.K Z ρi Si H' σ' dsi ∧ MP (whileM mt mb n dsi Si) (PtS X.K W Z ρi H' D) No, fun σ' H' z => ⟨n, by omega, z⟩, Z, ρ2, S2, ds1, t2, (MP.bind q2).imp (fun fl S4 q4 => ?_) fun _ _ _ z => z⟩
        cases fl with
        | nx ds4 => exact fun ρ4 H4 σ4 e4 t4 => ⟨ρ4, S4, ds4, t4, (show MP (whileM mt mb n ds4 S4) _ _ from q4).imp (fun _ _ z => z.up (e2.trans e4)) fun _ _ _ z => z⟩
        | ct ds4 => exact fun ρ4 H4 σ4 e4 t4 => ⟨ρ4, S4, ds4, t4, (show MP (whileM mt mb n ds4 S4) _ _ from q4).imp (fun _ _ z => z.up (e2.trans e4)) fun _ _ _ z => z⟩
        | bk ds4 => exact fun ρ4 H4 σ4 e4 t4 => (MP.pure q4 : PtS _ _ _ _ _ _ _ _) ρ4 H4 σ4 (e2.trans e4) t4
        | rt d => exact fun ρ4 H4 v e4 k4 i4 => (MP.pure q4 : PtS _ _ _ _ _ _ _ _) ρ4 H4 v (e2.trans e4) k4 i4
        | ex c v ds4 => exact fun ρ4 H4 σ4 S5 e4 t4 => (MP.pure q4 : PtS _ _ _ _ _ _ _ _) ρ4 H4 σ4 S5 (e2.trans e4) t4
end Pv

/-! Pv13: what a def does, as a function on data; its calls. -/
namespace Pv
open PySem PySem.Spec PyProof.Rows L2
/-- a def on data -/
abbrev DM := List D → M D
/-- the run of a def, as told by m -/
def RunsM (P : Program) (w : World) (K : PySem.W.Frag) (mg : Str → Option Value) (base : Heap) (k : Nat) (f : Addr) (fd : FuncData) (ps : List Str) (m : DM) : Prop :=
  ∀ (A : Around) (outer : List Env) (s : Shared) (H : Hp) (args : Args) (us : List Value) (vs : List V) (Q : VK) (Z ρ : List Addr) (S : Sto) (ds : List D),
    Room k A → A.guards = some [] → Env0 P w K mg base A outer s H → BindsTo s fd args (ps.zip us) → Vals vs us → vs.length = ps.length → Ok K Z ρ S H → IsAll K Z ρ H vs ds → MP (m ds S) (Pt K Z ρ H Q) No →
    codeAny (model P w) A (.call (.ref f) args) (CR CX0 outer P w H s Q E0) s
/-- the slots at the entry -/
def stD (n : Nat) (ds : List D) : En := ds.map some ++ List.replicate (n - ds.length) none
/-- the body's end as the def's -/
def toRet : Fl → M D
  | .rt d => pure d
  | .nx _ => pure .non
  | _ => stuck
def mFnK (n : Nat) (m : SM) : DM := fun ds => m (stD n ds) >>= toRet
/-! ### the store behind a def: what it made is forgotten, what it gives stands alone -/
mutual
/-- no cell from the n-th on -/
def clD (n : Nat) : D → Bool
  | .cell k => decide (k < n)
  | .tup xs => clL n xs
  | .lst xs => clL n xs
  | .scr xs => clL n xs
  | _ => true
def clL (n : Nat) : List D → Bool
  | [] => true
  | x :: xs => clD n x && clL n xs
end
mutual
/-- new cells become lists: g tells what they hold -/
def fzD (n : Nat) (g : Nat → Option (List D)) : D → Option D
  | .cell k => if k < n then some (.cell k) else (g k).map .lst
  | .tup xs => (fzL n g xs).map .tup
  | .lst xs => (fzL n g xs).map .lst
  | .scr xs => (fzL n g xs).map .scr
  | .non => some .non
  | .bl b => some (.bl b)
  | .int i => some (.int i)
  | .str x => some (.str x)
  | .ty x => some (.ty x)
def fzL (n : Nat) (g : Nat → Option (List D)) : List D → Option (List D)
  | [] => some []
  | x :: xs => match fzD n g x, fzL n g xs with
    | some y, some ys => some (y :: ys)
    | _, _ => none
end
def fzG (n : Nat) (S : Sto) : Nat → Nat → Option (List D)
  | 0, _ => none
  | i + 1, k => match S[k]? with
    | some (.lst xs) => fzL n (fzG n S i) xs
    | none => none
def clS (n : Nat) (S : Sto) : Bool := S.all fun c => match c with
  | .lst xs => clL n xs
def cutM (n : Nat) (d : D) (S : Sto) : R D := if n ≤ S.length ∧ clS n (S.take n) = true then match fzD n (fzG n S 4) d with
    | some e => .ok e (S.take n)
    | none => .no
  else .no
def mFnT (n : Nat) (m : SM) : DM := fun ds S => match mFnK n m ds S with
  | .ok d S' => cutM S.length d S'
  | .exc c v S' => .exc c v S'
  | .no => .no
section
variable {K : PySem.W.Frag} {Z ρ ρ' : List Addr} {S S' : Sto} {H H' : Hp} {v : V} {d e : D} {vs : List V} {ds es : List D} {n : Nat}
theorem take_cell {k : Nat} {a : Addr} (h : ρ[k]? = some a) (hk : k < n) : (ρ.take n)[k]? = some a := by rw [List.getElem?_take_of_lt hk]; exact h
theorem LstAt.cut {a : Addr} (h : LstAt Z ρ H a vs) : LstAt Z (ρ.take n) H a vs := ⟨h.1, fun z => h.2.1 (List.mem_of_mem_take z), h.2.2⟩
mutual
theorem Is.cut : ∀ {v : V} {d : D}, Is K Z ρ H v d → clD n d = true → Is K Z (ρ.take n) H v d
  | _, _, .non, _ => .non
  | _, _, .bl b, _ => .bl b
  | _, _, .int i, _ => .int i
  | _, _, .str x, _ => .str x
  | _, _, .tup h r, c => .tup h (IsAll.cut r c)
  | _, _, .lst h r, c => .lst h.cut (IsAll.cut r c)
  | _, _, .cell h, c => .cell (take_cell h (of_decide_eq_true c))
  | _, _, .ty x, _ => .ty x
  | _, _, .scr h r, c => .scr h (IsAll.cut r c)
theorem IsAll.cut : ∀ {vs : List V} {ds : List D}, IsAll K Z ρ H vs ds → clL n ds = true → IsAll K Z (ρ.take n) H vs ds
  | _, _, .nil, _ => .nil
  | _, _, .cons h r, c => by
    have c' : (clD n _ && clL n _) = true := c
    rw [Bool.and_eq_true] at c'
    exact .cons (Is.cut h c'.1) (IsAll.cut r c'.2)
end
/-- what is told of new cells -/
def Tells (K : PySem.W.Frag) (Z ρ : List Addr) (H : Hp) (n : Nat) (g : Nat → Option (List D)) : Prop := ∀ (k : Nat) (a : Addr) (xs : List D), ρ[k]? = some a → n ≤ k → g k = some xs → ∃ vs, H a = some (.lst vs) ∧ IsAll K Z (ρ.take n) H vs xs
theorem mapS {α β : Type} {o : Option α} {f : α → β} {b : β} (h : o.map f = some b) : ∃ a, o = some a ∧ f a = b := by
  cases o with
  | none => cases h
  | some a => exact ⟨a, rfl, Option.some.inj h⟩
mutual
theorem Is.frz {g : Nat → Option (List D)} (nd : ρ.Nodup) (zd : ∀ a, a ∈ ρ → a ∉ Z) (hg : Tells K Z ρ H n g) : ∀ {v : V} {d e : D}, Is K Z ρ H v d → fzD n g d = some e → Is K Z (ρ.take n) H v e
  | _, _, _, .non, h => by cases h; exact .non
  | _, _, _, .bl b, h => by cases h; exact .bl b
  | _, _, _, .int i, h => by cases h; exact .int i
  | _, _, _, .str x, h => by cases h; exact .str x
  | _, _, _, .tup h r, e => by
    obtain ⟨ys, e1, rfl⟩ := mapS (show (fzL n g _).map D.tup = some _ from e)
    exact .tup h (IsAll.frz nd zd hg r e1)
  | _, _, _, .lst h r, e => by
    obtain ⟨ys, e1, rfl⟩ := mapS (show (fzL n g _).map D.lst = some _ from e)
    exact .lst h.cut (IsAll.frz nd zd hg r e1)
  | _, _, _, .scr h r, e => by
    obtain ⟨ys, e1, rfl⟩ := mapS (show (fzL n g _).map D.scr = some _ from e)
    exact .scr h (IsAll.frz nd zd hg r e1)
  | _, _, _, .ty x, h => by cases h; exact .ty x
  | _, _, _, .cell (k := k) (a := a) hc, e => by
    have e' : (if k < n then some (D.cell k) else (g k).map D.lst) = some _ := e
    by_cases hk : k < n
    · rw [if_pos hk] at e'
      cases e'
      exact .cell (take_cell hc hk)
    · rw [if_neg hk] at e'
      obtain ⟨ys, e1, rfl⟩ := mapS e'
      obtain ⟨vs, h1, r⟩ := hg k a ys hc (by omega) e1
      refine .lst ⟨h1, fun z => ?_, zd a (List.mem_of_getElem? hc)⟩ r
      obtain ⟨j, hj, e2⟩ := List.getElem_of_mem z
      have hj2 : j < n := by rw [List.length_take] at hj; omega
      have e3 : ρ[j]? = some a := by
        rw [← List.getElem?_take_of_lt hj2, List.getElem?_eq_getElem hj, e2]
      have hkj : k = j := (List.getElem?_inj (List.getElem?_eq_some_iff.mp hc).1 nd).mp (hc.trans e3.symm)
      omega
theorem IsAll.frz {g : Nat → Option (List D)} (nd : ρ.Nodup) (zd : ∀ a, a ∈ ρ → a ∉ Z) (hg : Tells K Z ρ H n g) : ∀ {vs : List V} {ds es : List D}, IsAll K Z ρ H vs ds → fzL n g ds = some es → IsAll K Z (ρ.take n) H vs es
  | _, _, _, .nil, h => by cases h; exact .nil
  | _, _, _, .cons (d := d) (ds := ds) h r, e => by
    have e' : (match fzD n g d, fzL n g ds with
      | some y, some ys => some (y :: ys)
      | _, _ => none) = some _ := e
    cases e1 : fzD n g d with
    | none => rw [e1] at e'; cases e'
    | some y =>
      cases e2 : fzL n g ds with
      | none => rw [e1, e2] at e'; cases e'
      | some ys =>
        rw [e1, e2] at e'
        cases e'
        exact .cons (Is.frz nd zd hg h e1) (IsAll.frz nd zd hg r e2)
end
theorem fzG_ok (k : Ok K Z ρ S H) : ∀ i, Tells K Z ρ H n (fzG n S i)
  | 0, _, _, _, _, _, e => by cases e
  | i + 1, j, a, xs, h1, h2, e => by
    unfold fzG at e
    cases q : S[j]? with
    | none => rw [q] at e; cases e
    | some c =>
      rw [q] at e
      cases c with
      | lst ys =>
        obtain ⟨vs, h3, r⟩ := k.cell j a _ h1 q
        exact ⟨vs, h3, r.frz k.nd k.zd (fzG_ok k i) e⟩
theorem Ok.cut (k : Ok K Z ρ S H) (c : clS n (S.take n) = true) : Ok K Z (ρ.take n) (S.take n) H where
  len := by rw [List.length_take, List.length_take, k.len]
  nd := k.nd.sublist (List.take_sublist _ _)
  zd := fun a h => k.zd a (List.mem_of_mem_take h)
  zt := k.zt
  cell := fun i a q h1 h2 => by
    have hi : i < n := by
      have := (List.getElem?_eq_some_iff.mp h1).1
      rw [List.length_take] at this; omega
    have c2 := List.all_eq_true.mp c q (List.mem_of_getElem? h2)
    rw [List.getElem?_take_of_lt hi] at h1 h2
    have w := k.cell i a q h1 h2
    cases q with
    | lst xs =>
      obtain ⟨vs, e1, r⟩ := w
      exact ⟨vs, e1, r.cut c2⟩
theorem Ext.cut (e : Ext ρ H ρ' H') : ρ'.take ρ.length = ρ ∧ Ext ρ H ρ H' := by
  obtain ⟨m, q, f⟩ := e.more
  exact ⟨by rw [q, List.take_left], ⟨[], by simp, fun _ h => by cases h⟩, e.keep, e.there⟩
theorem MP.fnT {m : SM} {Q : VK} (hl : ρ.length = S.length) (h : MP (mFnT n m ds S) (Pt K Z ρ H Q) No) : MP (mFnK n m ds S) (Pt K Z ρ H Q) No := by
  unfold mFnT at h
  cases q : mFnK n m ds S with
  | no => rw [q] at h; exact h
  | exc c v S' => rw [q] at h; exact h
  | ok d S' =>
    rw [q] at h
    intro ρ' H' v e k i
    have h' : MP (cutM S.length d S') (Pt K Z ρ H Q) No := h
    unfold cutM at h'
    split at h'
    · rename_i c
      split at h'
      · rename_i d' e'
        obtain ⟨e1, e2⟩ := e.cut
        have k2 := k.cut c.2
        have i2 := i.frz k.nd k.zd (fzG_ok k 4) e'
        rw [← hl, e1] at k2 i2
        rw [← hl] at h'
        exact h' ρ H' v e2 k2 i2
      · exact h'.elim
    · exact h'.elim
end
/-! ### a def of the text -/
section
variable {P : Program} {w : World} {K : PySem.W.Frag} {mg : Str → Option Value} {base : Heap} {x qual : Str} {params : Arguments} {body : List Stmt} {scope : Scope} {f : Addr} {fd : FuncData} {N ps : List Str} {k : Nat} {m : SM}
theorem bnd_of {A : Around} {outer : List Env} {s : Shared} {H : Hp} {args : Args} {us : List Value} {vs : List V} (e0 : Env0 P w K mg base A outer s H) (hb : BindsTo s fd args (ps.zip us)) (r : Vals vs us) (hl : vs.length = ps.length) :
    StX.Bnd CX0 P w K mg base fd args ps A outer s H E0 (fun xs H2 => xs = vs ∧ H2 = H) := fun A' Ex Q' h =>
  hb _ _ _ _ (h s H vs us e0 Un.refl rfl (fun _ _ z => z) r hl ⟨rfl, rfl⟩)
theorem envIs_start {Z ρ : List Addr} {H : Hp} {vs : List V} {ds : List D} (r : IsAll K Z ρ H vs ds) : EnvIs K Z ρ H (start N vs) (stD N.length ds) where
  len := by
    unfold stD L2.start
    rw [List.length_append, List.length_append, List.length_map, List.length_map, r.length, List.length_replicate, List.length_replicate]
  get := fun i d h => by
    unfold stD at h
    unfold L2.start
    by_cases hi : i < ds.length
    · rw [List.getElem?_append_left (by rw [List.length_map]; exact hi), List.getElem?_map] at h
      obtain ⟨d', e1, e2⟩ := mapS h
      cases e2
      obtain ⟨v, e3, iv⟩ := r.get e1
      exact ⟨v, by rw [List.getElem?_append_left (by rw [List.length_map, r.length]; exact hi), List.getElem?_map, e3]; rfl, iv⟩
    · rw [List.getElem?_append_right (by rw [List.length_map]; omega), List.getElem?_replicate] at h
      split at h <;> cases h
theorem runsK (F : FunD K x qual params body scope [] [] f fd) (S : FnScope N ps scope)
    (hbody : ∀ (cdv : Value) (A : Around) (outer : List Env) (s : Shared) (H : Hp), Room k (A.deeper (envOfC qual scope s.heap.objs.size f cdv)) → (A.deeper (envOfC qual scope s.heap.objs.size f cdv)).guards = some [] →
      PSsm (cxOf CX0 P w K mg base N qual scope f cdv A outer s H E0).nox (W0 K) body m) : RunsM P w K mg base (k + 1) f fd ps (mFnK N.length m) := by
  obtain ⟨oc, od, dV, kV, doc, pm, an, cdv, ct, osl, rfl, lk, hcd, _, _⟩ := F.ex
  intro A outer s H args us vs Q Z ρ St ds hr hg e0 hb r hl k0 i0 h
  refine StX.run_bnd lk hcd S hr e0 (bnd_of e0 hb r hl) fun s2 H2 xs ⟨ex, eH⟩ hr2 => ?_
  subst ex eH
  refine ⟨tS K (W0 K) m, PSs.nox (hbody cdv A outer s2 H2 hr2 hg), Z, ρ, St, stD N.length ds, ⟨k0, envIs_start i0⟩, (MP.bind h).imp (fun fl S1 q => ?_) fun _ _ _ z => z⟩
  cases fl with
  | nx ds1 => exact fun ρ1 H1 σ1 e1 t1 => (MP.pure q : Pt _ _ _ _ _ _ _) ρ1 H1 .non e1 t1.ok .non
  | bk ds1 => exact q.elim
  | ct ds1 => exact q.elim
  | rt d => exact (MP.pure q : Pt _ _ _ _ _ _ _)
  | ex c v ds1 => exact q.elim
theorem runsT (F : FunD K x qual params body scope [] [] f fd) (S : FnScope N ps scope)
    (hbody : ∀ (cdv : Value) (A : Around) (outer : List Env) (s : Shared) (H : Hp), Room k (A.deeper (envOfC qual scope s.heap.objs.size f cdv)) → (A.deeper (envOfC qual scope s.heap.objs.size f cdv)).guards = some [] →
      PSsm (cxOf CX0 P w K mg base N qual scope f cdv A outer s H E0).nox (W0 K) body m) : RunsM P w K mg base (k + 1) f fd ps (mFnT N.length m) :=
  fun A outer s H args us vs Q Z ρ St ds hr hg e0 hb r hl k0 i0 h => runsK F S hbody A outer s H args us vs Q Z ρ St ds hr hg e0 hb r hl k0 i0 (h.fnT k0.len)
theorem RunsM.mono {j : Nat} {m : DM} {ps : List Str} (h : RunsM P w K mg base j f fd ps m) (hj : j ≤ k) : RunsM P w K mg base k f fd ps m :=
  fun A outer s H args us vs Q Z ρ St ds hr => h A outer s H args us vs Q Z ρ St ds (hr.mono hj)
end
/-- a def of the module's top by its name -/
structure Has (P : Program) (w : World) (K : PySem.W.Frag) (mg : Str → Option Value) (base : Heap) (k : Nat) (x : Str) (params : Arguments) (body : List Stmt) (scope : Scope) (ps : List Str) (m : DM) : Prop where
  ex : ∃ f fd, FunD K x x params body scope [] [] f fd ∧ mg x = some (.ref f) ∧ RunsM P w K mg base k f fd ps m
/-! ### calls -/
section
variable {X : Cx} {k j : Nat} {x : Str} {params : Arguments} {body : List Stmt} {scope : Scope} {ps ks : List Str} {m : DM} {W : Wsh X.K} {p pos : Pos} {e : Expr} {es : List Expr} {ms mk : AM} {kws : List Keyword}
/-- what a context grants its calls -/
structure Fit (X : Cx) (j : Nat) : Prop where
  room : Room j X.A
  grd : X.A.guards = some []
theorem run_m {f : Addr} {fd : FuncData} {pins : List (Addr × Obj)} {σ : L2.St} {H : Hp} {s : Shared} {Q : VK} {args : List Value} {kw : List (Str × Value)} {us : List Value} {vs : List V} {Z ρ : List Addr} {S : Sto} {ds : List D}
    (R : RunsM X.prog X.w X.K X.mg X.base k f fd ps m) (ft : Fit X j) (hk : k ≤ j) (I : Inv X pins σ H s) (hb : BindsTo s fd ⟨args, kw⟩ (ps.zip us)) (r : Vals vs us) (hl : vs.length = ps.length) (k0 : Ok X.K Z ρ S H) (i0 : IsAll X.K Z ρ H vs ds)
    (h : MP (m ds S) (Pt X.K Z ρ H Q) No) : wpAny (model X.prog X.w) X.A (call (.ref f) args kw) (EP X pins σ Q) X.xe s := by
  refine wpAny_call (codeAny_mono (R X.A X.stack s H ⟨args, kw⟩ us vs Q Z ρ S ds (ft.room.mono hk) ft.grd I.env0 hb r hl k0 i0 h) fun q s' hq => ?_)
  cases q with
  | error e => exact hq.elim
  | ok fl =>
    cases fl with
    | ret u => exact I.after hq
    | next => exact hq.elim
    | brk => exact hq.elim
    | cont => exact hq.elim
def mApp (n : Nat) (ms : AM) (m : DM) : EM := fun ds => ms ds >>= fun xs => if xs.length = n then M.cl (m xs) else stuck
theorem app_at {σ : L2.St} {H : Hp} {Q : VK} {n : Nat} (h : tE X.K W (mApp n ms m) σ H Q) : tA X.K W ms σ H fun vs H1 => ∃ Z ρ S ds, Ok X.K Z ρ S H1 ∧ IsAll X.K Z ρ H1 vs ds ∧ vs.length = n ∧ MP (m ds S) (Pt X.K Z ρ H1 Q) No := by
  obtain ⟨Z, ρ, S, ds, t, h⟩ := h
  exact tA_bind t h fun xs S1 ρ1 H1 vs e1 t1 i q => by
    by_cases hl : xs.length = n
    · rw [if_pos hl] at q
      exact ⟨Z, ρ1, S1, xs, t1.ok, i, by rw [i.length]; exact hl, MP.cl (q.imp (fun _ _ z => z.up e1) fun _ _ _ z => z)⟩
    · rw [if_neg hl] at q; exact q.elim
/-- f(a, ..): every parameter, by its place -/
theorem em_call (c : Has X.prog X.w X.K X.mg X.base k x params body scope ps m) (ft : Fit X j) (hk : k ≤ j) (hg : Gl X x)
    (hb : ∀ (kV doc pm : Value) (an : Option Addr) (cdv ct : Value) (us : List Value), us.length = ps.length → bindArgs (PySem.W.fnOf x x params body scope .none kV doc pm an cdv ct) ⟨us, []⟩ = pure (ps.zip us))
    (ha : PAm X W (e :: es) ms) (hdb : (x == ("__debug__" : Str)) = false := by decide)
    (he : starEach (e :: es) X.env = (false, eval e X.env) :: starEach es X.env := by rfl) (hpl : (backTo pos (starEach es X.env)).any (·.1) = false := by rfl) :
    PEm X W (.Call (.Name x p) (e :: es) [] pos) (mApp ps.length ms m) := by
  obtain ⟨f, fd, F, hm, R⟩ := c.ex
  have kp := F.kp
  obtain ⟨oc, od, dV, kV, doc, pm, an, cdv, ct, osl, rfl, lk, hcd, hd, _⟩ := F.ex
  obtain rfl : dV = .none := hd.elim (fun z => z.2) fun z => absurd rfl z.1
  refine ⟨fun pins s σ H Q I h => wpAny_Call_Name_kw (ld_glob I hg hm ?_ hdb)⟩
  refine PySem.W.callWith_K (h₀ := X.base) I.ok.mod.kin kp (thn (ha.run pos pins s σ H _ I (app_at h)) fun us s1 ⟨vs, H1, I1, r, Z, ρ, S, ds, k0, i0, hl, q⟩ => ⟨I1.kIn, ?_⟩) he hpl
  exact run_m (args := us) (kw := []) R ft hk I1 (.of_eq (hb kV doc pm an cdv ct us (by rw [← r.length]; exact hl))) r hl k0 i0 q
/-! keywords -/
def pick {α : Type} (p : List Nat) (l : List α) : List α := p.filterMap fun i => l[i]?
theorem pick_vals {vs : List V} {us : List Value} (r : Vals vs us) : ∀ p : List Nat, Vals (pick p vs) (pick p us)
  | [] => .nil
  | i :: p => by
    unfold pick
    rw [List.filterMap_cons, List.filterMap_cons]
    have hl := r.length
    cases q : vs[i]? with
    | none =>
      have : us[i]? = none := by rw [List.getElem?_eq_none_iff] at q ⊢; omega
      rw [this]
      exact pick_vals r p
    | some v =>
      obtain ⟨u, hu, rv⟩ := r.get q
      rw [hu]
      exact .cons rv (pick_vals r p)
theorem pick_is {K : PySem.W.Frag} {Z ρ : List Addr} {H : Hp} {vs : List V} {ds : List D} (r : IsAll K Z ρ H vs ds) : ∀ p : List Nat, IsAll K Z ρ H (pick p vs) (pick p ds)
  | [] => .nil
  | i :: p => by
    unfold pick
    rw [List.filterMap_cons, List.filterMap_cons]
    cases q : ds[i]? with
    | none =>
      have : vs[i]? = none := by rw [List.getElem?_eq_none_iff] at q ⊢; rw [r.length]; omega
      rw [this]
      exact pick_is r p
    | some d =>
      obtain ⟨v, hv, iv⟩ := r.get q
      rw [hv]
      exact .cons iv (pick_is r p)
def PKm (X : Cx) (W : Wsh X.K) (kws : List Keyword) (m : AM) : Prop := PK X kws (tA X.K W m)
theorem km_nil : PKm X W [] mNil := ⟨fun pos pins s σ H Q I ⟨Z, ρ, S, ds, t, h⟩ => pk_nil.run pos pins s σ H Q I ((MP.pure h : PtA _ _ _ _ _ _ _) ρ H [] Ext.refl t.ok .nil)⟩
theorem km_cons {nm : Option Str} {kpos : Pos} {ma : EM} (ha : PEm X W e ma) (hr : PKm X W kws mk) : PKm X W (⟨nm, e, kpos⟩ :: kws) (mCons ma mk) :=
  ⟨fun pos pins s σ H Q I ⟨Z, ρ, S, ds, t, h⟩ => (pk_cons ha hr).run pos pins s σ H Q I (tE_bind t h fun d S1 ρ1 H1 v e1 t1 i q => tA_bind t1 q fun d2 S2 ρ2 H2 v2 e2 t2 i2 q2 =>
    (MP.pure q2 : PtA _ _ _ _ _ _ _) ρ2 H2 _ (e1.trans e2) t2.ok (.cons (i.mono t1.ok e2) i2))⟩
/-- f(.., k = v, ..): pr the places, in the parameters' order, within what is written -/
def mAppK (n1 n2 : Nat) (pr : List Nat) (ms mk : AM) (m : DM) : EM := fun ds => ms ds >>= fun xs => mk ds >>= fun ys => if xs.length = n1 ∧ ys.length = n2 then M.cl (m (pick pr (xs ++ ys))) else stuck
theorem appK_at {σ : L2.St} {H : Hp} {Q : VK} {n1 n2 : Nat} {pr : List Nat} (h : tE X.K W (mAppK n1 n2 pr ms mk m) σ H Q) :
    tA X.K W ms σ H fun vs H1 => tA X.K W mk σ H1 fun zs H2 => ∃ Z ρ S ds, Ok X.K Z ρ S H2 ∧ IsAll X.K Z ρ H2 (pick pr (vs ++ zs)) ds ∧ vs.length = n1 ∧ zs.length = n2 ∧ MP (m ds S) (Pt X.K Z ρ H2 Q) No := by
  obtain ⟨Z, ρ, S, ds, t, h⟩ := h
  refine tA_bind t h fun xs S1 ρ1 H1 vs e1 t1 i q => tA_bind t1 q fun ys S2 ρ2 H2 zs e2 t2 i2 q2 => ?_
  by_cases hl : xs.length = n1 ∧ ys.length = n2
  · rw [if_pos hl] at q2
    exact ⟨Z, ρ2, S2, _, t2.ok, pick_is ((i.mono t1.ok e2).append i2) pr, by rw [i.length]; exact hl.1, by rw [i2.length]; exact hl.2, MP.cl (q2.imp (fun _ _ z => z.up (e1.trans e2)) fun _ _ _ z => z)⟩
  · rw [if_neg hl] at q2; exact q2.elim
theorem em_callK {pr : List Nat} (c : Has X.prog X.w X.K X.mg X.base k x params body scope ps m) (ft : Fit X j) (hk : k ≤ j) (hg : Gl X x)
    (hb : ∀ (kV doc pm : Value) (an : Option Addr) (cdv ct : Value) (us ws : List Value), us.length = (e :: es).length → ws.length = ks.length → bindArgs (PySem.W.fnOf x x params body scope .none kV doc pm an cdv ct) ⟨us, ks.zip ws⟩ = pure (ps.zip (pick pr (us ++ ws))) ∧ (pick pr (us ++ ws)).length = ps.length)
    (ha : PAm X W (e :: es) ms) (hkw : PKm X W kws mk) (hall : (backToKw pos (keywordEach kws X.env)).all (·.1.isSome) = true := by rfl) (hks : (backToKw pos (keywordEach kws X.env)).filterMap (·.1) = ks := by rfl)
    (hdb : (x == ("__debug__" : Str)) = false := by decide) (he : starEach (e :: es) X.env = (false, eval e X.env) :: starEach es X.env := by rfl)
    (hpl : ((backTo pos (starEach (e :: es) X.env)).any (·.1) || (backToKw pos (keywordEach kws X.env)).any (·.1.isNone)) = false := by rfl) :
    PEm X W (.Call (.Name x p) (e :: es) kws pos) (mAppK (e :: es).length ks.length pr ms mk m) := by
  obtain ⟨f, fd, F, hm, R⟩ := c.ex
  have kp := F.kp
  obtain ⟨oc, od, dV, kV, doc, pm, an, cdv, ct, osl, rfl, lk, hcd, hd, _⟩ := F.ex
  obtain rfl : dV = .none := hd.elim (fun z => z.2) fun z => absurd rfl z.1
  refine ⟨fun pins s σ H Q I h => wpAny_Call_Name_kw (ld_glob I hg hm ?_ hdb)⟩
  refine PySem.W.callWith_KW (h₀ := X.base) I.ok.mod.kin kp hall (thn (ha.run pos pins s σ H _ I (appK_at h)) fun us s1 ⟨vs, H1, I1, r, q⟩ => ?_) hpl he
  refine thn (hkw.run pos pins s1 σ H1 _ I1 q) fun ws s2 ⟨zs, H2, I2, rz, Z, ρ, S, ds, k0, i0, l1, l2, q2⟩ => ⟨I2.kIn, ?_⟩
  rw [hks]
  have b := hb kV doc pm an cdv ct us ws (by rw [← r.length]; exact l1) (by rw [← rz.length]; exact l2)
  have rr := pick_vals (r.append rz) pr
  exact run_m (args := us) (kw := ks.zip ws) R ft hk I2 (.of_eq b.1) rr (by rw [rr.length]; exact b.2) k0 i0 q2
theorem em_callK0 {pr : List Nat} {kw : Keyword} (c : Has X.prog X.w X.K X.mg X.base k x params body scope ps m) (ft : Fit X j) (hk : k ≤ j) (hg : Gl X x)
    (hb : ∀ (kV doc pm : Value) (an : Option Addr) (cdv ct : Value) (ws : List Value), ws.length = ks.length → bindArgs (PySem.W.fnOf x x params body scope .none kV doc pm an cdv ct) ⟨[], ks.zip ws⟩ = pure (ps.zip (pick pr ws)) ∧ (pick pr ws).length = ps.length)
    (hkw : PKm X W (kw :: kws) mk) (hall : (backToKw pos (keywordEach (kw :: kws) X.env)).all (·.1.isSome) = true := by rfl) (hks : (backToKw pos (keywordEach (kw :: kws) X.env)).filterMap (·.1) = ks := by rfl)
    (hdb : (x == ("__debug__" : Str)) = false := by decide)
    (hpl : ((backTo pos (starEach [] X.env)).any (·.1) || (backToKw pos (keywordEach (kw :: kws) X.env)).any (·.1.isNone)) = false := by rfl) :
    PEm X W (.Call (.Name x p) [] (kw :: kws) pos) (mAppK 0 ks.length pr mNil mk m) := by
  obtain ⟨f, fd, F, hm, R⟩ := c.ex
  have kp := F.kp
  obtain ⟨oc, od, dV, kV, doc, pm, an, cdv, ct, osl, rfl, lk, hcd, hd, _⟩ := F.ex
  obtain rfl : dV = .none := hd.elim (fun z => z.2) fun z => absurd rfl z.1
  refine ⟨fun pins s σ H Q I h => wpAny_Call_Name_kw (ld_glob I hg hm ?_ hdb)⟩
  have h2 : tA X.K W mk σ H fun zs H2 => ∃ Z ρ S ds, Ok X.K Z ρ S H2 ∧ IsAll X.K Z ρ H2 (pick pr zs) ds ∧ zs.length = ks.length ∧ MP (m ds S) (Pt X.K Z ρ H2 Q) No := by
    obtain ⟨Z, ρ, S, ds, t, h⟩ := h
    have h' : MP ((mk ds >>= fun ys => if ([] : List D).length = 0 ∧ ys.length = ks.length then M.cl (m (pick pr ([] ++ ys))) else stuck) S) (Pt X.K Z ρ H Q) (W.P Z ρ H σ ds) := h
    refine tA_bind t h' fun ys S2 ρ2 H2 zs e2 t2 i2 q2 => ?_
    by_cases hl : ([] : List D).length = 0 ∧ ys.length = ks.length
    · rw [if_pos hl, List.nil_append] at q2
      exact ⟨Z, ρ2, S2, _, t2.ok, pick_is i2 pr, by rw [i2.length]; exact hl.2, MP.cl (q2.imp (fun _ _ z => z.up e2) fun _ _ _ z => z)⟩
    · rw [if_neg hl] at q2; exact q2.elim
  refine PySem.W.callWith_KW0 (h₀ := X.base) I.ok.mod.kin kp hall ?_ hpl
  refine thn (hkw.run pos pins s σ H _ I h2) fun ws s2 ⟨zs, H2, I2, rz, Z, ρ, S, ds, k0, i0, l2, q2⟩ => ⟨I2.kIn, ?_⟩
  rw [hks]
  have b := hb kV doc pm an cdv ct ws (by rw [← rz.length]; exact l2)
  have rr := pick_vals rz pr
  exact run_m (args := []) (kw := ks.zip ws) R ft hk I2 (.of_eq b.1) rr (by rw [rr.length]; exact b.2) k0 i0 q2
end
end Pv

/-! Pv14: the end: a law as a function on data. -/
namespace Pv
open PySem PySem.Spec PyProof.Rows L2
/-- the script alone -/
def scrH (K : PySem.W.Frag) (a : Addr) (u : Obj) (ns : List Int) : Hp := fun b => if b = a ∧ K.lookup a = none then some (.frz u (.lst (ns.map V.int))) else none
theorem scrH_some {K : PySem.W.Frag} {a b : Addr} {u : Obj} {ns : List Int} {x : HO} (h : scrH K a u ns b = some x) : b = a ∧ K.lookup a = none ∧ x = .frz u (.lst (ns.map V.int)) := by
  unfold scrH at h
  by_cases c : b = a ∧ K.lookup a = none
  · rw [if_pos c] at h; exact ⟨c.1, c.2, (Option.some.inj h).symm⟩
  · rw [if_neg c] at h; cases h
section
variable {P : Program} {w : World} {K : PySem.W.Frag} {mg mb : Str → Option Value} {k : Nat} {fa a : Addr} {fd : FuncData} {x : Str} {m : DM} {s₁ : Shared} {vs : List Value} {ns : List Int}
theorem law_run (KX : K.In s₁.heap) (hns : s₁.heap.Ns mainGlobals mg) (hb : s₁.heap.Ns builtinsNs mb) (hbb : ∀ x : Str, x ≠ "__name__" → mb x = bootBuiltins x) (hlim : s₁.heap.NoLimit) (hg : s₁.gens = #[])
    (ha : s₁.heap.get? a = some { cls := .type "list", data := .seq vs.toArray }) (hi : IntsAre vs ns) (hl : ns.length ≤ sizeLine) (hr : Room k callerA)
    (F : ∀ base : Heap, K.In base → base.Ns mainGlobals mg → RunsM P w K mg base k fa fd [x] m) (hbind : ∀ (s : Shared) (u : Value), BindsTo s fd ⟨[u], []⟩ [(x, u)])
    (hm : ∃ S, m [.scr (ns.map D.int)] [] = .ok (.bl true) S) :
    codeAny (model P w) callerA (.call (.ref fa) ⟨[.ref a], []⟩) (fun r s' => r = .ok (.ret (.bool true)) ∧ OldK s₁.heap s'.heap ∧ s'.os = s₁.os ∧ AllBare s'.gens) s₁ := by
  generalize hu : ({ cls := .type "list", data := .seq vs.toArray } : Obj) = u at ha
  have look : ∀ {b : Addr} {o : Obj}, s₁.heap.get? b = some o → (scrH K a u ns b = none ∨ (b = a ∧ o = u ∧ K.lookup a = none)) := fun {b o} e => by
    cases q : scrH K a u ns b with
    | none => exact .inl rfl
    | some y =>
      obtain ⟨rfl, h2, _⟩ := scrH_some q
      rw [ha] at e
      exact .inr ⟨rfl, (Option.some.inj e).symm, h2⟩
  have inB : ∀ {b : Addr} {o : Obj}, s₁.heap.get? b = some o → o ≠ u → (hidT s₁.heap (scrH K a u ns)).get? b = some o := fun {b o} e n =>
    hidT_get e ((look e).elim id fun z => absurd z.2.1 n)
  have toNs : ∀ {b : Addr} {t : Str → Option Value}, s₁.heap.Ns b t → (hidT s₁.heap (scrH K a u ns)).Ns b t := fun {b t} h => by
    obtain ⟨o, es, ep, e, d, r⟩ := h
    refine ⟨o, es, ep, inB e fun z => ?_, d, r⟩
    rw [z, ← hu] at d
    cases d
  have kB : K.In (hidT s₁.heap (scrH K a u ns)) := fun b o e => hidT_get (KX b o e) ((look (KX b o e)).elim id fun z => by
    obtain ⟨rfl, _, z⟩ := z
    rw [e] at z; cases z)
  have ok1 : HOk P w (scrH K a u ns) s₁.heap := fun b y z => by
    obtain ⟨rfl, _, rfl⟩ := scrH_some z
    exact ⟨ha, by rw [List.length_map]; exact hl, vs, 0, vals_ints hi, by rw [ha, ← hu]⟩
  obtain ⟨mc, l1, l2⟩ := hlim
  have mod : Mod K mg (hidT s₁.heap (scrH K a u ns)) := ⟨kB, toNs hns, ⟨mb, toNs hb, hbb⟩, ⟨mc, toNs l1, l2⟩⟩
  have nofr : ∀ b : Addr, b ∉ frs ([] : List Env) := fun b z => by cases z
  have e0 : Env0 P w K mg (hidT s₁.heap (scrH K a u ns)) callerA [] s₁ (scrH K a u ns) :=
    ⟨rfl, mod, fun b o e => of_hidT e, Nat.le_of_eq (hidT_size _ _), trivial, fun b z => absurd z (nofr b), ok1, .of_eq hg⟩
  have at0 : Is K [] [] (scrH K a u ns) (.ref a) (.scr (ns.map D.int)) := by
    refine .scr ?_ (IsAll.ints ns)
    cases q : K.lookup a with
    | none => exact .inl ⟨u, if_pos ⟨rfl, q⟩⟩
    | some o =>
      have e := KX a o q
      rw [ha] at e
      cases e
      subst hu
      exact .inr ⟨_, vs.toArray, 0, q, rfl, rfl, rfl, by rw [List.size_toArray, hi.length]; exact hl, by simpa using vals_ints hi⟩
  obtain ⟨S', eS⟩ := hm
  have ok0 : Ok K [] [] [] (scrH K a u ns) := ⟨rfl, List.nodup_nil, (fun _ h => by cases h), (fun _ h => by cases h), (fun i b c h1 _ => by simp at h1)⟩
  refine codeAny_mono (F _ kB (toNs hns) callerA [] s₁ (scrH K a u ns) ⟨[.ref a], []⟩ [.ref a] [.ref a] (fun v _ => v = .bl true) [] [] [] [.scr (ns.map D.int)] hr rfl e0 (hbind s₁ (.ref a)) (.cons rfl .nil) rfl ok0 (.cons at0 .nil) ?_) fun r s' h => ?_
  · rw [eS]
    intro ρ' H' v e k i
    cases i
    rfl
  · cases r with
    | error e => exact h.elim
    | ok fl =>
      cases fl with
      | next => exact h.elim
      | brk => exact h.elim
      | cont => exact h.elim
      | ret t =>
        obtain ⟨v, H', os, bare, un, hok', rv, q⟩ := h
        subst q
        obtain rfl : t = Value.bool true := rv
        refine ⟨rfl, OldK.of_keep fun b o e => ?_, os, bare⟩
        rcases look e with z | ⟨rfl, rfl, z⟩
        · exact un.keep b o e z (nofr b) (by simp)
        · exact (hok' b _ (un.frzs b o _ (if_pos ⟨rfl, z⟩))).1
end
/-- a law whose def runs as m over any base, and m answers true -/
theorem law_end {l : PySem.W.OpenLaw} {n k : Nat} {q : Program} {loose : List Str} {XP : (Str → Option Value) → Heap → Prop} {YP : World → Heap → Prop} {d : DefRec} {x : Str} {m : DM}
    (hn : l.most = some n) (hn2 : n ≤ sizeLine) (hdf : d.params.defaults = []) (hr : Room k callerA)
    (F : ∀ (w : World) (mg : Str → Option Value) (fa : Addr) (h : Heap), YP w h → h.Ns mainGlobals mg → mg d.name = some (.ref fa) →
      ∃ (K : PySem.W.Frag) (fd : FuncData), K.In h ∧ (∀ (s : Shared) (u : Value), BindsTo s fd ⟨[u], []⟩ [(x, u)]) ∧ ∀ base : Heap, K.In base → base.Ns mainGlobals mg → RunsM l.prog w K mg base k fa fd [x] m)
    (hm : ∀ ns : List Int, ns.length ≤ n → ∃ S, m [.scr (ns.map D.int)] [] = .ok (.bl true) S) :
    PySem.W.WalkO q loose XP YP l.row.toRowW d [] (fun f vs => PySem.call f vs) :=
  Att.attach_call hn hdf fun w s₀ s₁ mg mb fa o pm cd doc a vs ns G Y ho hd hcd hmg hobj hints hlen hg =>
    have ⟨_, _, KX, hb, hF⟩ := F w mg fa _ Y G.T.g hmg
    law_run KX G.T.g G.T.b G.T.builtins G.T.nolimit hg hobj hints (Nat.le_trans hlen hn2) hr hF hb (hm ns hlen)
end Pv

/-! Pv15: turned ones, list(range), zip, enumerate, what is walked of cells. -/
namespace Pv
open PySem PySem.Spec PyProof.Rows L2
/-! ### e[::-1] -/
def RevR (X : Cx) (r : V → Hp → VK → Prop) : Prop :=
  ∀ (pins : List (Addr × Obj)) (s : Shared) (σ : L2.St) (H : Hp) (x : V) (v vs : Value) (sl : Addr) (Q : VK), Inv X pins σ H s → RelV x v → s.heap.IsSliceOf sl .none .none vs → IsPart vs (some (-1)) → r x H Q →
    ∃ T id, typeLookup (.type T) "__getitem__" = pure (some (.builtin id)) ∧ s.TypeIs v T ∧ wpAny (model X.prog X.w) X.A (getItem v (.ref sl)) (EP X pins σ Q) X.xe s
theorem RevR.or {X : Cx} {r r' : V → Hp → VK → Prop} (h : RevR X r) (h' : RevR X r') : RevR X (fun x H Q => r x H Q ∨ r' x H Q) :=
  fun pins s σ H x v vs sl Q I rx hs ps q => q.elim (h pins s σ H x v vs sl Q I rx hs ps) (h' pins s σ H x v vs sl Q I rx hs ps)
def rRevL (K : PySem.W.Frag) : V → Hp → VK → Prop := fun x H Q => ∃ a xs, x = .ref a ∧ SqL K H a xs ∧ ∀ p, H p = none → Q (.ref p) (upd H p (.lst xs.reverse))
def rRevT (K : PySem.W.Frag) : V → Hp → VK → Prop := fun x H Q => ∃ a xs, x = .ref a ∧ SqT K H a xs ∧ ∀ p, H p = none → Q (.ref p) (upd H p (.tup xs.reverse))
def rRevS : V → Hp → VK → Prop := fun x H Q => ∃ z : Str, x = .str z ∧ z.length ≤ 1000000 ∧ Q (.str ⟨z.cps.toList.reverse.toArray⟩) H
section
variable {X : Cx}
theorem rev_list : RevR X (rRevL X.K) := by
  intro pins s σ H x v vs sl Q I rx hs ps h
  obtain ⟨a, xs, rfl, hx, q⟩ := h
  cases rx
  obtain ⟨its, r, ht, hz⟩ := I.list hx
  have hlen := r.length
  refine ⟨"list", _, PySem.slot_list_getitem.lookup, ht.isList.typeIs, wpAny_getItem_list_slice ht.isList hs .none .none ps (by decide) ?_ (by rw [List.size_toArray]; omega)⟩
  rw [PySem.W.krv_pick]
  refine ⟨.ref _, _, I.laid (t' := s.toks) (o := .lst xs.reverse) (fun b ob q => Heap.get?_push_of_some _ q) (Nat.le_refl _) ?_, rfl, q _ (I.hok.fresh (Nat.le_refl _))⟩
  exact ⟨by rw [List.length_reverse]; exact hz, _, 0, r.reverse, Heap.get?_push_size _ rfl⟩
theorem rev_range {α : Type} (xs : Array α) : (List.range xs.size).filterMap (fun (k : Nat) => xs[(((xs.size : Int) - 1) + (k : Int) * (-1)).toNat]?) = xs.toList.reverse := by
  have e : ∀ k ∈ List.range xs.size, xs[(((xs.size : Int) - 1) + (k : Int) * (-1)).toNat]? = ((fun j => xs[j]?) ∘ fun k => xs.size - 1 - k) k := fun k hk => by
    have := List.mem_range.mp hk
    show _ = xs[xs.size - 1 - k]?
    congr 1
    omega
  have fc : ∀ (l : List Nat) {f g : Nat → Option α}, (∀ k ∈ l, f k = g k) → l.filterMap f = l.filterMap g := by
    intro l f g h
    induction l with
    | nil => rfl
    | cons a l ih => rw [List.filterMap_cons, List.filterMap_cons, h a List.mem_cons_self, ih fun k hk => h k (List.mem_cons_of_mem _ hk)]
  rw [fc _ e, ← List.filterMap_map, PySem.W.krv_range, List.filterMap_reverse, PySem.W.krv_all]
section
variable {prog : Program} {w : World} {A : Around} {E : Value → Shared → Prop} {s : Shared}
theorem applied_rev {sl : Addr} {vs : Value} {n : Nat} {Q : Int × Int × Nat → Shared → Prop} (hs : s.heap.IsSliceOf sl .none .none vs) (ps : IsPart vs (some (-1)))
    (h : Q ((n : Int) - 1, -1, n) s) : wpAny (model prog w) A (Builtin.Slice.sliceApplied (.ref sl) (pure (n : Int))) Q E s := by
  obtain ⟨os, hos, hcs, hds⟩ := id hs
  unfold Builtin.Slice.sliceApplied Builtin.Slice.sliceFields
  refine wpAny_bind (wpAny_bind (wpAny_field hos hds (x := .none) rfl (wpAny_bind (wpAny_field hos hds (x := .none) rfl (wpAny_bind (wpAny_field hos hds (x := vs) rfl (wpAny_pure ?_)))))))
  refine wpAny_bind (HT.slicePart_ ps ?_)
  show wpAny _ _ (if ((-1 : Int) == 0) = true then _ else _) _ _ s
  rw [if_neg (by decide)]
  refine wpAny_bind (HT.slicePart_ .none (wpAny_bind (HT.slicePart_ .none (wpAny_bind (wpAny_pure ?_)))))
  show wpAny _ _ (pure ((n : Int) - 1, (-1 : Int), Builtin.Slice.slicePlaces ((n : Int) - 1) (-1) (-1))) _ _ s
  have e : Builtin.Slice.slicePlaces ((n : Int) - 1) (-1) (-1) = n := by
    unfold Builtin.Slice.slicePlaces
    rw [if_neg (by decide)]
    by_cases hn : (n : Int) - 1 > -1
    · rw [if_pos hn, show (- (-1) : Int) = 1 by decide, Int.ediv_one]
      omega
    · rw [if_neg hn]
      omega
  rw [e]
  exact wpAny_pure h
theorem get_tup_rev {t sl : Addr} {items : Array Value} {vs : Value} {Q : Value → Shared → Prop} (ht : IsTup s.heap t items) (hs : s.heap.IsSliceOf sl .none .none vs) (ps : IsPart vs (some (-1)))
    (h : Q (.ref s.heap.objs.size) { s with heap := s.heap.push { cls := .type "tuple", data := .seq items.toList.reverse.toArray } }) (hsz : items.size ≤ sizeLine) : wpAny (model prog w) A (getItem (.ref t) (.ref sl)) Q E s := by
  obtain ⟨os, hos, hcs, hds⟩ := id hs
  have hTs : s.TypeIs (.ref sl) "slice" := ⟨os, hos, hcs⟩
  have hk : sizeOk (.seq items.toList.reverse.toArray) := by
    show items.toList.reverse.toArray.size ≤ sizeLine
    simpa using hsz
  unfold getItem
  try with_reducible refine wpAny_holding ?_
  first | refine wpAny_bind (wpAny_pure ?_) | skip
  refine wpAny_bind (wpAny_sequenceKey ht.typeIs (by decide) ?_)
  refine wpAny_bind (wpAny_callSpecial?_slot (name := Str.ofString "__getitem__") ht.typeIs PyProof.Rows.slot_tuple_getitem
    (wpAny_call_entry PyProof.Rows.slot_tuple_getitem ht.typeIs entry_tuple_getitem ?_ (args_tuple_getitem _ _)))
  show wpAny _ _ (Builtin.Tuple.tupleItemsOf (.ref t) >>= _) _ _ s
  refine wpAny_bind (PyProof.Rows.tupleItemsOf_ ht ?_)
  refine wpAny_bind (wpAny_typeOf hTs ?_)
  rw [if_pos (by decide)]
  refine wpAny_bind (applied_rev hs ps ?_)
  show wpAny _ _ (if (((items.size : Int) - 1) == 0 && (-1 : Int) == 1 && items.size == items.size) = true then _ else _) _ _ s
  rw [if_neg (by rw [show ((-1 : Int) == 1) = false by decide, Bool.and_false, Bool.false_and]; exact Bool.false_ne_true), rev_range]
  exact wpAny_bind (m := Builtin.Tuple.tupleExact _) (wpAny_newObj_type (wpAny_pure ⟨_, rfl, wpAny_pure h⟩) hk)
end
theorem rev_tup : RevR X (rRevT X.K) := by
  intro pins s σ H x v vs sl Q I rx hs ps h
  obtain ⟨a, xs, rfl, hx, q⟩ := h
  cases rx
  obtain ⟨its, r, ht, hz⟩ := I.tuple hx
  have hlen : its.toArray.size = xs.length := by rw [List.size_toArray]; exact r.length.symm
  refine ⟨"tuple", _, PyProof.Rows.slot_tuple_getitem.lookup, ht.typeIs, get_tup_rev ht hs ps ?_ (by rw [hlen]; exact hz)⟩
  refine ⟨.ref s.heap.objs.size, _, I.laid (t' := s.toks) (o := .tup xs.reverse) (fun b ob q => Heap.get?_push_of_some _ q) (Nat.le_refl _) ?_, rfl, q _ (I.hok.fresh (Nat.le_refl _))⟩
  exact ⟨by rw [List.length_reverse]; exact hz, _, r.reverse, IsTup.new _ _⟩
theorem rev_str : RevR X rRevS := by
  intro pins s σ H x v vs sl Q I rx hs ps h
  obtain ⟨z, rfl, hz, q⟩ := h
  obtain ⟨t, rfl⟩ := rx
  obtain ⟨os, hos, hcs, hds⟩ := hs
  cases ps with
  | int i t2 =>
    refine ⟨"str", _, F.slot_str_getitem.lookup, typeIs_str _ _ _, ?_⟩
    refine wpAny_getItem_str_slice (l := none) (u := none) (st := some (-1, t2)) ⟨os, hos, hcs, hds⟩ rfl ?_
    show Made.post (if ((-1 : Int) == 1 && (Builtin.Str.strSliceIndices none none (-1) z.length).length == z.length) = true then Made.val (.str z t)
      else Made.str ⟨((Builtin.Str.strSliceIndices none none (-1) z.length).filterMap (z.cps[·]?)).toArray⟩) (EP X pins σ Q) s
    rw [if_neg (by rw [show ((-1 : Int) == 1) = false by decide, Bool.false_and]; exact Bool.false_ne_true)]
    have e : (Builtin.Str.strSliceIndices none none (-1) z.length).filterMap (z.cps[·]?) = z.cps.toList.reverse := by
      have e0 : Builtin.Str.strSliceIndices none none (-1) z.length = sliceRange ((z.length : Int) - 1) (-1) (-1) := rfl
      rw [e0, PySem.W.krv_sliceRange, PySem.W.krv_range, List.filterMap_reverse]
      exact congrArg List.reverse (PySem.W.krv_all z.cps)
    rw [e]
    refine ⟨?_, .str _, H, I.tok _, ⟨_, rfl⟩, q⟩
    show z.cps.toList.reverse.toArray.size ≤ sizeLine
    have : z.cps.size ≤ 1000000 := hz
    rw [sizeLine_eq]
    simp
    omega
def tRev (r : V → Hp → VK → Prop) (te : TE) : TE := fun σ H Q => te σ H fun x H1 => r x H1 Q
theorem pe_rev {r : V → Hp → VK → Prop} {e : Expr} {te : TE} {k : Nat} {p1 p2 p3 pos : Pos} (hr : RevR X r) (he : PE X e te) : PE X (.Subscript e (.Slice none none (some (.UnaryOp .USub (.Constant (.int 1) k p1) p2)) p3) pos) (tRev r te) := by
  refine ⟨fun pins s σ H Q I h => ?_⟩
  refine Subscript_ (thn (he.run pins s σ H _ I h) fun v s1 ⟨x, H1, I1, r1, q1⟩ => ?_)
  have hst : PO X (some (.UnaryOp .USub (.Constant (.int 1) k p1) p2)) (tPart (tUn (rU fun i => .int (-i)) (tC (.int 1)))) := po_some (pe_un un_neg pe_int)
  refine wpAny_Slice (thn (po_none.run pins s1 σ H1 (fun o H2 => o = none ∧ H2 = H1) I1 ⟨rfl, rfl⟩) fun vl s2 ⟨l, H2, I2, pl, el, e2⟩ => ?_)
  subst el e2
  refine thn (po_none.run pins s2 σ H2 (fun o H3 => o = none ∧ H3 = H2) I2 ⟨rfl, rfl⟩) fun vu s3 ⟨u, H3, I3, pu, eu, e3⟩ => ?_
  subst eu e3
  refine thn (hst.run pins s3 σ H3 (fun o H4 => o = some (-1) ∧ H4 = H3) I3 ⟨1, rfl, -1, rfl, rfl, rfl⟩) fun vs s4 ⟨o, H4, I4, ps, eo, e4⟩ => ?_
  subst eo e4
  cases pl
  cases pu
  have I5 : Inv X pins σ H4 { s4 with heap := s4.heap.push { cls := .type "slice", data := .fields #[.none, .none, vs] } } := I4.kept (t' := s4.toks) fun b ob q => Heap.get?_push_of_some _ q
  obtain ⟨T, id, hT, ht, hg⟩ := hr pins _ σ H4 x v vs s4.heap.objs.size Q I5 r1 (Heap.IsSliceOf.new ..) ps q1
  show wpAny (model X.prog X.w) X.A (subscriptTail e (.Slice none none (some (.UnaryOp .USub (.Constant (.int 1) k p1) p2)) p3) v (.ref s4.heap.objs.size)) (EP X pins σ Q) X.xe { s4 with heap := s4.heap.push { cls := .type "slice", data := .fields #[.none, .none, vs] } }
  exact tail_any (ops := [v, .ref s4.heap.objs.size]) ht hT hg (by with_unfolding_all rfl)
end
def fRev : F1 := fun x S => match vw S x with
  | .lst ds => some (.lst ds.reverse, S)
  | .tup ds => some (.tup ds.reverse, S)
  | .str z => if z.length ≤ 1000000 then some (.str ⟨z.cps.toList.reverse.toArray⟩, S) else none
  | _ => none
section
variable {X : Cx} {W : Wsh X.K} {e : Expr} {ma : EM} {k : Nat} {p1 p2 p3 pos : Pos}
theorem em_rev (he : PEm X W e ma) : PEm X W (.Subscript e (.Slice none none (some (.UnaryOp .USub (.Constant (.int 1) k p1) p2)) p3) pos) (mUn fRev ma) :=
  PE.imp (pe_rev (rev_list.or (rev_tup.or rev_str)) he) fun σ H Q h => by
    have hf : UnD X.K (fun x H Q => rRevL X.K x H Q ∨ rRevT X.K x H Q ∨ rRevS x H Q) fRev := fun Z ρ S S' H x dx d Q k i e q => by
      unfold fRev at e
      split at e
      · rename_i es e5
        cases e
        obtain ⟨a, vs, rfl, hl, r⟩ := vw_lst k i e5
        exact .inl ⟨a, vs, rfl, hl, q.lst k r.reverse⟩
      · rename_i es e5
        cases e
        obtain ⟨a, vs, rfl, hl, r⟩ := vw_tup i e5
        exact .inr (.inl ⟨a, vs, rfl, hl, q.tup k r.reverse⟩)
      · rename_i z e5
        obtain ⟨hz, e6⟩ := of_if e
        cases e6
        cases vw_str i e5
        exact .inr (.inr ⟨z, rfl, hz, q.val k (.str _)⟩)
      · cases e
    exact tUn_of hf h
end
/-! ### list(range(..)) -/
def mLRng1 (ma : EM) : EM := fun ds => ma ds >>= fun x => match x with
  | .int n => if n ≤ 1000000 ∧ -1000000 ≤ n then pure (.lst (rngD 0 n.toNat)) else stuck
  | _ => stuck
def mLRng2 (ma mb : EM) : EM := fun ds => ma ds >>= fun x => mb ds >>= fun y => match x, y with
  | .int i, .int j => if i ≤ 1000000 ∧ -1000000 ≤ i ∧ j ≤ 1000000 ∧ -1000000 ≤ j then pure (.lst (rngD i (j - i).toNat)) else stuck
  | _, _ => stuck
theorem rg_all {K : PySem.W.Frag} {Z ρ : List Addr} {H : Hp} (a b : Int) : IsAll K Z ρ H (rgV a b) (rngD a (b - a).toNat) := by
  have e1 : rgV a b = ((List.range (b - a).toNat).map fun (i : Nat) => a + (i : Int)).map V.int := by
    unfold rgV
    rw [List.map_map]; rfl
  have e2 : rngD a (b - a).toNat = ((List.range (b - a).toNat).map fun (i : Nat) => a + (i : Int)).map D.int := by
    unfold rngD
    rw [List.map_map]; rfl
  rw [e1, e2]
  exact IsAll.ints _
section
variable {X : Cx} {W : Wsh X.K} {a b e e2 : Expr} {ma mb : EM} {ms : AM} {p p2 pos pos2 tpos : Pos} {elts : List Expr} {kk : Nat}
theorem em_lrng1 (hc : X.calm = true) (hg : Gl X "list") (hm : X.mg "list" = none) (hg2 : Gl X "range") (hm2 : X.mg "range" = none) (ha : PEm X W a ma) (na : starEach [a] X.env = (false, eval a X.env) :: starEach [] X.env := by rfl)
    (nb : starEach [.Call (.Name "range" p2) [a] [] pos2] X.env = (false, eval (.Call (.Name "range" p2) [a] [] pos2) X.env) :: starEach [] X.env := by rfl) : PEm X W (.Call (.Name "list" p) [.Call (.Name "range" p2) [a] [] pos2] [] pos) (mLRng1 ma) :=
  PE.imp (pe_listRg hc hg hm (prg_1 hg2 hm2 ha na) nb) fun σ H Q ⟨Z, ρ, S, ds, t, h⟩ => tE_bind t h fun d S1 ρ1 H1 v e1 t1 i q => by
    cases i with
    | int n =>
      by_cases hn : n ≤ 1000000 ∧ -1000000 ≤ n
      · simp only [if_pos hn] at q
        refine ⟨n, rfl, ⟨by omega, by omega, by omega, by omega, by omega⟩, ?_⟩
        have r := rg_all (K := X.K) (Z := Z) (ρ := ρ1) (H := H1) 0 n
        rw [Int.sub_zero] at r
        exact ((MP.pure q : Pt _ _ _ _ _ _ _).up e1).lst t1.ok r
      · simp only [if_neg hn] at q; exact q.elim
    | _ => exact q.elim
theorem em_lrng2 (hc : X.calm = true) (hg : Gl X "list") (hm : X.mg "list" = none) (hg2 : Gl X "range") (hm2 : X.mg "range" = none) (ha : PEm X W a ma) (hb : PEm X W b mb) (na : starEach [a, b] X.env = (false, eval a X.env) :: starEach [b] X.env := by rfl)
    (na2 : starEach [b] X.env = (false, eval b X.env) :: starEach [] X.env := by rfl) (hp : (backTo pos2 (starEach [b] X.env)).any (·.1) = false := by rfl)
    (nb : starEach [.Call (.Name "range" p2) [a, b] [] pos2] X.env = (false, eval (.Call (.Name "range" p2) [a, b] [] pos2) X.env) :: starEach [] X.env := by rfl) : PEm X W (.Call (.Name "list" p) [.Call (.Name "range" p2) [a, b] [] pos2] [] pos) (mLRng2 ma mb) :=
  PE.imp (pe_listRg hc hg hm (prg_2 hg2 hm2 ha hb na na2 hp) nb) fun σ H Q ⟨Z, ρ, S, ds, t, h⟩ => tE_bind t h fun d S1 ρ1 H1 v e1 t1 i q => tE_bind t1 q fun d2 S2 ρ2 H2 v2 e2 t2 i2 q2 => by
    cases i with
    | int n =>
      cases i2 with
      | int l =>
        by_cases hn : n ≤ 1000000 ∧ -1000000 ≤ n ∧ l ≤ 1000000 ∧ -1000000 ≤ l
        · simp only [if_pos hn] at q2
          exact ⟨n, l, rfl, rfl, ⟨by omega, by omega, by omega, by omega, by omega⟩, ((MP.pure q2 : Pt _ _ _ _ _ _ _).up (e1.trans e2)).lst t2.ok (rg_all n l)⟩
        · simp only [if_neg hn] at q2; exact q2.elim
      | _ => exact q2.elim
    | _ => exact q2.elim
/-! ### zip, enumerate -/
theorem src_zipL {K : PySem.W.Frag} (a b : Addr) (xs ys : List D) : Src K (Itz K a b) (xs.zipWith (fun x y => .tup [x, y]) ys) fun Z ρ H => Is K Z ρ H (.ref a) (.lst xs) ∧ Is K Z ρ H (.ref b) (.lst ys) where
  go := fun i Z ρ S H hi g k => by
    obtain ⟨g1, g2⟩ := g
    rw [List.length_zipWith] at hi
    cases g1 with
    | lst h r =>
      cases g2 with
      | lst h2 r2 =>
        obtain ⟨v, e, _⟩ := r.get (List.getElem?_eq_getElem (show i < xs.length by omega))
        obtain ⟨v2, e2, _⟩ := r2.get (List.getElem?_eq_getElem (show i < ys.length by omega))
        exact ⟨_, _, v, v2, h.seq, h2.seq, e, e2⟩
  stop := fun Z ρ S H g k => by
    obtain ⟨g1, g2⟩ := g
    cases g1 with
    | lst h r =>
      cases g2 with
      | lst h2 r2 => exact ⟨_, _, h.seq, h2.seq, by rw [List.length_zipWith, r.length, r2.length]; omega⟩
  yld := fun i d Z ρ S H x H' e g k y => by
    obtain ⟨g1, g2⟩ := g
    obtain ⟨T, x1, y1, rfl, hT, rfl, q1, q2⟩ := y
    cases g1 with
    | lst h r =>
      cases g2 with
      | lst h2 r2 =>
        rw [List.getElem?_zipWith] at e
        split at e
        · rename_i u w eu ew
          cases e
          obtain ⟨v, e3, iv⟩ := r.get eu
          obtain ⟨v2, e4, iv2⟩ := r2.get ew
          have z1 := q1 _ h.seq
          have z2 := q2 _ h2.seq
          rw [e3] at z1; rw [e4] at z2
          cases z1; cases z2
          exact ⟨ext_new hT, k.new hT, new_tup k hT (.cons iv (.cons iv2 .nil))⟩
        · cases e
  keep := fun Z Y ρ S H ρ' H' g k e => ⟨g.1.monoZ k e, g.2.monoZ k e⟩
  zw := fun Z ρ S H p vs o g k hp hl => ⟨g.1.zw k hp hl, g.2.zw k hp hl⟩
  addZ := fun Z ρ H p g hp => ⟨g.1.addZ hp, g.2.addZ hp⟩
theorem src_zipT {K : PySem.W.Frag} (a b : Addr) (xs ys : List D) : Src K (RZ.ItzT K a b) (xs.zipWith (fun x y => .tup [x, y]) ys) fun Z ρ H => Is K Z ρ H (.ref a) (.tup xs) ∧ Is K Z ρ H (.ref b) (.tup ys) where
  go := fun i Z ρ S H hi g k => by
    obtain ⟨g1, g2⟩ := g
    rw [List.length_zipWith] at hi
    cases g1 with
    | tup h r =>
      cases g2 with
      | tup h2 r2 =>
        obtain ⟨v, e, _⟩ := r.get (List.getElem?_eq_getElem (show i < xs.length by omega))
        obtain ⟨v2, e2, _⟩ := r2.get (List.getElem?_eq_getElem (show i < ys.length by omega))
        exact ⟨_, _, v, v2, h, h2, e, e2⟩
  stop := fun Z ρ S H g k => by
    obtain ⟨g1, g2⟩ := g
    cases g1 with
    | tup h r =>
      cases g2 with
      | tup h2 r2 => exact ⟨_, _, h, h2, by rw [List.length_zipWith, r.length, r2.length]; omega⟩
  yld := fun i d Z ρ S H x H' e g k y => by
    obtain ⟨g1, g2⟩ := g
    obtain ⟨T, x1, y1, rfl, hT, rfl, q1, q2⟩ := y
    cases g1 with
    | tup h r =>
      cases g2 with
      | tup h2 r2 =>
        rw [List.getElem?_zipWith] at e
        split at e
        · rename_i u w eu ew
          cases e
          obtain ⟨v, e3, iv⟩ := r.get eu
          obtain ⟨v2, e4, iv2⟩ := r2.get ew
          have z1 := q1 _ h
          have z2 := q2 _ h2
          rw [e3] at z1; rw [e4] at z2
          cases z1; cases z2
          exact ⟨ext_new hT, k.new hT, new_tup k hT (.cons iv (.cons iv2 .nil))⟩
        · cases e
  keep := fun Z Y ρ S H ρ' H' g k e => ⟨g.1.monoZ k e, g.2.monoZ k e⟩
  zw := fun Z ρ S H p vs o g k hp hl => ⟨g.1.zw k hp hl, g.2.zw k hp hl⟩
  addZ := fun Z ρ H p g hp => ⟨g.1.addZ hp, g.2.addZ hp⟩
def mZip (ms : AM) : IM := fun ds => ms ds >>= fun xs => match xs with
  | [.lst us, .lst vs] => pure (us.zipWith (fun x y => .tup [x, y]) vs)
  | [.tup us, .tup vs] => pure (us.zipWith (fun x y => .tup [x, y]) vs)
  | _ => stuck
theorem im_zip (hg : Gl X "zip") (hm : X.mg "zip" = none) (ha : PAm X W [e, e2] ms)
    (hs : starEach [e, e2] X.env = (false, eval e X.env) :: starEach [e2] X.env := by rfl) (hpl : (backTo pos (starEach [e2] X.env)).any (·.1) = false := by rfl) :
    PIm X W (.Tuple elts kk tpos) (.Call (.Name "zip" p) [e, e2] [] pos) (mZip ms) :=
  PI.imp (RZ.pi_zipA hg hm ha hs hpl) fun σ H R ⟨Z, ρ, S, ds, t, h⟩ => tA_bind t h fun xs S1 ρ1 H1 vs e1 t1 i q => by
    split at q
    · obtain ⟨v, w, rfl, iv, iw⟩ := is2 i
      cases iv with
      | @lst a us _ h1 r1 =>
        cases iw with
        | @lst b ws _ h2 r2 => exact ⟨a, b, us, ws, rfl, .inl ⟨h1.seq, h2.seq, (MP.pure q) ρ1 H1 _ _ e1 t1.ok (src_zipL a b _ _) ⟨.lst h1 r1, .lst h2 r2⟩⟩⟩
    · obtain ⟨v, w, rfl, iv, iw⟩ := is2 i
      cases iv with
      | @tup a us _ h1 r1 =>
        cases iw with
        | @tup b ws _ h2 r2 => exact ⟨a, b, us, ws, rfl, .inr ⟨h1, h2, (MP.pure q) ρ1 H1 _ _ e1 t1.ok (src_zipT a b _ _) ⟨.tup h1 r1, .tup h2 r2⟩⟩⟩
    · exact q.elim
def enumD (i : Nat) : List D → List D
  | [] => []
  | x :: xs => .tup [.int i, x] :: enumD (i + 1) xs
theorem enumD_length : ∀ (xs : List D) (i : Nat), (enumD i xs).length = xs.length
  | [], _ => rfl
  | _ :: xs, i => congrArg (· + 1) (enumD_length xs (i + 1))
theorem enumD_get : ∀ (xs : List D) (i j : Nat), (enumD i xs)[j]? = xs[j]?.map fun x => .tup [.int ((i + j : Nat) : Int), x]
  | [], _, _ => by simp [enumD]
  | x :: xs, i, 0 => by simp [enumD]
  | x :: xs, i, j + 1 => by
    show (enumD (i + 1) xs)[j]? = _
    rw [enumD_get xs (i + 1) j, List.getElem?_cons_succ, show i + 1 + j = i + (j + 1) by omega]
theorem src_enum {K : PySem.W.Frag} (a : Addr) (xs : List D) : Src K (Ite K a) (enumD 0 xs) fun Z ρ H => Is K Z ρ H (.ref a) (.lst xs) where
  go := fun i Z ρ S H hi g k => by
    rw [enumD_length] at hi
    cases g with
    | lst h r =>
      obtain ⟨v, e, _⟩ := r.get (List.getElem?_eq_getElem hi)
      exact ⟨_, v, h.seq, e⟩
  stop := fun Z ρ S H g k => by
    cases g with
    | lst h r => exact ⟨_, h.seq, by rw [enumD_length, r.length]; exact Nat.le_refl _⟩
  yld := fun i d Z ρ S H x H' e g k y => by
    obtain ⟨T, x1, rfl, hT, rfl, q1⟩ := y
    rw [enumD_get, Nat.zero_add] at e
    cases g with
    | lst h r =>
      obtain ⟨u, e1, rfl⟩ := mapS e
      obtain ⟨v, e3, iv⟩ := r.get e1
      have z1 := q1 _ h.seq
      rw [e3] at z1
      cases z1
      exact ⟨ext_new hT, k.new hT, new_tup k hT (.cons (.int _) (.cons iv .nil))⟩
  keep := fun Z Y ρ S H ρ' H' g k e => g.monoZ k e
  zw := fun Z ρ S H p vs o g k hp hl => g.zw k hp hl
  addZ := fun Z ρ H p g hp => g.addZ hp
def mEnum (ms : AM) : IM := fun ds => ms ds >>= fun xs => match xs with
  | [.lst us] => pure (enumD 0 us)
  | _ => stuck
theorem im_enum (hg : Gl X "enumerate") (hm : X.mg "enumerate" = none) (ha : PAm X W [e] ms) (hs : starEach [e] X.env = [(false, eval e X.env)] := by rfl) :
    PIm X W (.Tuple elts kk tpos) (.Call (.Name "enumerate" p) [e] [] pos) (mEnum ms) :=
  PI.imp (pi_enum hg hm ha hs) fun σ H R ⟨Z, ρ, S, ds, t, h⟩ => tA_bind t h fun xs S1 ρ1 H1 vs e1 t1 i q => by
    split at q
    · obtain ⟨v, rfl, iv⟩ := is1 i
      cases iv with
      | @lst a us _ h1 r1 => exact ⟨a, us, rfl, h1.seq, (MP.pure q) ρ1 H1 _ _ e1 t1.ok (src_enum a _) (.lst h1 r1)⟩
    · exact q.elim
/-! ### the module's constants -/
theorem em_globS {x : Str} {z : Str} {tk : Tok} (hg : Gl X x) (hm : X.mg x = some (.str z tk)) (hd : (x == ("__debug__" : Str)) = false := by decide) : PEm X W (.Name x p) (fun _ => pure (.str z)) :=
  em_const (v := .str z) (pe_glob hg hm ⟨tk, rfl⟩ hd) fun _ _ _ => .str z
theorem em_globI {x : Str} {z : Int} {tk : Tok} (hg : Gl X x) (hm : X.mg x = some (.int z tk)) (hd : (x == ("__debug__" : Str)) = false := by decide) : PEm X W (.Name x p) (fun _ => pure (.int z)) :=
  em_const (v := .int z) (pe_glob hg hm ⟨tk, rfl⟩ hd) fun _ _ _ => .int z
end
end Pv

/-! Pv16: short words for terms. -/
namespace Pv
open PySem PySem.Spec PyProof.Rows L2
def mK (d : D) : EM := fun _ => pure d
def mV (i : Nat) : EM := fun ds => M.of (ds[i]?.join)
section
variable {X : Cx} {W : Wsh X.K} {e e2 : Expr} {es : List Expr} {ma mb : EM} {ms : AM} {pos p : Pos} {j : Nat}
theorem x_int {i : Int} {q : Nat} : PEm X W (.Constant (.int i) q pos) (mK (.int i)) := em_const (v := .int i) pe_int fun _ _ _ => .int i
theorem x_str {z : Str} {q : Nat} : PEm X W (.Constant (.str z) q pos) (mK (.str z)) := em_const (v := .str z) pe_str fun _ _ _ => .str z
theorem x_none {q : Nat} : PEm X W (.Constant .none q pos) (mK .non) := em_const (v := .non) pe_non fun _ _ _ => .non
theorem x_bool {b : Bool} {q : Nat} : PEm X W (.Constant (.bool b) q pos) (mK (.bl b)) := em_const (v := .bl b) pe_bl fun _ _ _ => .bl b
theorem x_v (i : Nat) {x : Str} (hN : X.N[i]? = some x := by rfl) (hv : Vis X.env.scope x := by first | exact Or.inl rfl | exact Or.inr (Or.inl rfl) | exact Or.inr (Or.inr rfl)) (hd : (x == ("__debug__" : Str)) = false := by decide)
    (hcd : (x == ("__classdict__" : Str)) = false := by decide) : PEm X W (.Name x p) (mV i) := em_var (pe_var hN hv hd hcd)
theorem x_gS {x z : Str} {tk : Tok} (hm : X.mg x = some (.str z tk)) (hg : Gl X x := by rfl) (hd : (x == ("__debug__" : Str)) = false := by decide) : PEm X W (.Name x p) (mK (.str z)) := em_globS hg hm hd
theorem x_gI {x : Str} {z : Int} {tk : Tok} (hm : X.mg x = some (.int z tk)) (hg : Gl X x := by rfl) (hd : (x == ("__debug__" : Str)) = false := by decide) : PEm X W (.Name x p) (mK (.int z)) := em_globI hg hm hd
/-- a built-in type by its name -/
theorem x_ty {x : Str} {T : String} (hm : X.mg x = none) (hg : Gl X x := by rfl) (hv : bootBuiltins x = some (.type T) := by rfl) (hn : x ≠ "__name__" := by decide) (hd : (x == ("__debug__" : Str)) = false := by decide) : PEm X W (.Name x p) (mK (.ty T)) :=
  em_const (v := .ty T) (pe_bltn hg hm hv rfl hn hd) fun _ _ _ => .ty T
section ops
variable {a b : Expr}
theorem x_add (ha : PEm X W a ma) (hb : PEm X W b mb) : PEm X W (.BinOp a .Add b pos) (mBin fAdd ma mb) := em_op or_add (od_add _) ha hb
theorem x_sub (ha : PEm X W a ma) (hb : PEm X W b mb) : PEm X W (.BinOp a .Sub b pos) (mBin fSub ma mb) := em_op op_sub (od_sub _) ha hb
theorem x_mul (ha : PEm X W a ma) (hb : PEm X W b mb) : PEm X W (.BinOp a .Mult b pos) (mBin fMul ma mb) := em_op or_mul (od_mul _) ha hb
theorem x_mod (ha : PEm X W a ma) (hb : PEm X W b mb) : PEm X W (.BinOp a .Mod b pos) (mBin fMod ma mb) := em_op op_mod (od_mod _) ha hb
theorem x_div (ha : PEm X W a ma) (hb : PEm X W b mb) : PEm X W (.BinOp a .FloorDiv b pos) (mBin fDiv ma mb) := em_op op_fdiv (od_div _) ha hb
theorem x_pow (ha : PEm X W a ma) (hb : PEm X W b mb) : PEm X W (.BinOp a .Pow b pos) (mBin fPow ma mb) := em_op op_powW (od_pow _) ha hb
theorem x_neg (ha : PEm X W a ma) : PEm X W (.UnaryOp .USub a pos) (mUn fNeg ma) := em_un un_neg (od_neg _) ha
/-- the comparisons: a rule, what it does on data -/
structure Cmp (X : Cx) (op : CmpOp) (f : F2) : Prop where
  ex : ∃ r, OpR X (compareOp op) r ∧ OpD X.K r f
theorem Fit.u65 (ft : Fit X j) : X.A.units + 65 < cLine := by have := ft.room.un; omega
theorem c_eq (ft : Fit X j) : Cmp X .Eq fEq := ⟨_, or_eq ft.room.units, od_eq _⟩
theorem c_ne (ft : Fit X j) : Cmp X .NotEq fNe := ⟨_, or_ne ft.room.units, od_ne _⟩
theorem c_lt : Cmp X .Lt fLt := ⟨_, or_lt, od_lt _⟩
theorem c_le : Cmp X .LtE fLe := ⟨_, or_le, od_le _⟩
theorem c_gt : Cmp X .Gt fGt := ⟨_, or_gt, od_gt _⟩
theorem c_ge : Cmp X .GtE fGe := ⟨_, op_ge, od_ge _⟩
theorem c_in (ft : Fit X j) : Cmp X .In fIn := ⟨_, or_in ft.u65, od_in _⟩
theorem c_notIn (ft : Fit X j) : Cmp X .NotIn fNotIn := ⟨_, or_notIn ft.u65, od_notIn _⟩
theorem c_is : Cmp X .Is fIs := ⟨_, or_is, od_is _⟩
theorem c_isNot : Cmp X .IsNot fIsNot := ⟨_, or_isNot, od_isNot _⟩
theorem x_cmp {op : CmpOp} {f : F2} (c : Cmp X op f) (ha : PEm X W a ma) (hb : PEm X W b mb) (hm : behindInMarks op b = false) : PEm X W (.Compare a [op] [b] pos) (mBin f ma mb) :=
  let ⟨_, h1, h2⟩ := c.ex
  em_cmp h1 h2 ha hb hm
theorem t_cmp {op : CmpOp} {f : F2} (c : Cmp X op f) (ha : PEm X W a ma) (hb : PEm X W b mb) (hm : behindInMarks op b = false) : PTm X W (.Compare a [op] [b] pos) (mBool (mBin f ma mb)) :=
  let ⟨_, h1, h2⟩ := c.ex
  tm_cmp h1 h2 ha hb hm
variable {c : Expr} {mc : EM}
theorem x_chain {op op' : CmpOp} {f g : F2} (h : Cmp X op f) (h' : Cmp X op' g) (ha : PEm X W a ma) (hb : PEm X W b mb) (hc : PEm X W c mc) (hm : lastMarks [op, op'] [b, c] = false) : PEm X W (.Compare a [op, op'] [b, c] pos) (mChain f g ma mb mc) :=
  let ⟨_, h1, h2⟩ := h.ex
  let ⟨_, h3, h4⟩ := h'.ex
  em_chain h1 h3 h2 h4 ha hb hc hm
theorem t_chain {op op' : CmpOp} {f g : F2} (h : Cmp X op f) (h' : Cmp X op' g) (ha : PEm X W a ma) (hb : PEm X W b mb) (hc : PEm X W c mc) (hm : lastMarks [op, op'] [b, c] = false) : PTm X W (.Compare a [op, op'] [b, c] pos) (mBool (mChain f g ma mb mc)) :=
  let ⟨_, h1, h2⟩ := h.ex
  let ⟨_, h3, h4⟩ := h'.ex
  tm_chain h1 h3 h2 h4 ha hb hc hm
end ops
/-! ### built-in functions by name -/
/-- one that is a function | a type, what it does on data -/
structure Blt (X : Cx) (x : Str) (f : FA) : Prop where
  ex : X.mg x = none ∧ x ≠ "__name__" ∧ (x == ("__debug__" : Str)) = false ∧ ∃ r, CallD X.K r f ∧ ((∃ id, bootBuiltins x = some (.builtin id) ∧ CallR X (.builtin id) r) ∨ (∃ T, bootBuiltins x = some (.type T) ∧ CallR X (.type T) r))
theorem x_blt {x : Str} {f : FA} (b : Blt X x f) (ha : PAm X W (e :: es) ms) (hg : Gl X x := by rfl) (he : starEach (e :: es) X.env = (false, eval e X.env) :: starEach es X.env := by rfl)
    (hpl : (backTo pos (starEach es X.env)).any (·.1) = false := by rfl) : PEm X W (.Call (.Name x p) (e :: es) [] pos) (mCall f ms) := by
  obtain ⟨hm, hn, hd, r, hf, ⟨id, hv, hc⟩ | ⟨T, hv, hc⟩⟩ := b.ex
  · exact PE.imp (pe_callB hc hg hm hv ha hn hd he hpl) fun σ H Q h => tCB_of hf h
  · exact PE.imp (pe_callTy hc hg hm hv ha hn hd he hpl) fun σ H Q h => tCB_of hf h
theorem b_len (hm : X.mg "len" = none) : Blt X "len" fLen := ⟨hm, by decide, by decide, _, cd_len _, .inl ⟨_, rfl, call_len⟩⟩
theorem b_abs (hm : X.mg "abs" = none) : Blt X "abs" fAbs := ⟨hm, by decide, by decide, _, cd_abs _, .inl ⟨_, rfl, call_abs⟩⟩
theorem b_int (hm : X.mg "int" = none) : Blt X "int" fInt := ⟨hm, by decide, by decide, _, cd_int _, .inr ⟨_, rfl, call_int1⟩⟩
theorem b_sum (hm : X.mg "sum" = none) (hc : X.calm = true := by rfl) : Blt X "sum" fSum := ⟨hm, by decide, by decide, _, cd_sum _, .inl ⟨_, rfl, cr_sum hc⟩⟩
theorem b_all (hm : X.mg "all" = none) (hc : X.calm = true := by rfl) : Blt X "all" fAll := ⟨hm, by decide, by decide, _, cd_all _, .inl ⟨_, rfl, cr_all hc⟩⟩
theorem b_any (hm : X.mg "any" = none) (hc : X.calm = true := by rfl) : Blt X "any" fAny := ⟨hm, by decide, by decide, _, cd_any _, .inl ⟨_, rfl, cr_any hc⟩⟩
theorem b_min (hm : X.mg "min" = none) (hc : X.calm = true := by rfl) : Blt X "min" fMin := ⟨hm, by decide, by decide, _, cd_min _, .inl ⟨_, rfl, cr_minA hc⟩⟩
theorem b_max (hm : X.mg "max" = none) (hc : X.calm = true := by rfl) : Blt X "max" fMax := ⟨hm, by decide, by decide, _, cd_max _, .inl ⟨_, rfl, cr_maxA hc⟩⟩
theorem b_sorted (hm : X.mg "sorted" = none) : Blt X "sorted" fSorted := ⟨hm, by decide, by decide, _, cd_sorted _, .inl ⟨_, rfl, cr_sortedI⟩⟩
theorem b_list (hm : X.mg "list" = none) : Blt X "list" fList := ⟨hm, by decide, by decide, _, cd_list _, .inr ⟨_, rfl, call_list_of⟩⟩
theorem b_listC (hm : X.mg "list" = none) : Blt X "list" fListC := ⟨hm, by decide, by decide, _, cd_listC _, .inr ⟨_, rfl, call_list_of⟩⟩
theorem b_tuple (hm : X.mg "tuple" = none) : Blt X "tuple" fTuple := ⟨hm, by decide, by decide, _, cd_tuple _, .inr ⟨_, rfl, call_tuple_of⟩⟩
theorem b_isinstance (hm : X.mg "isinstance" = none) : Blt X "isinstance" fIsi := ⟨hm, by decide, by decide, _, cd_isi _, .inl ⟨_, rfl, call_isi⟩⟩
theorem b_repr (ft : Fit X j) (hm : X.mg "repr" = none) : Blt X "repr" fRepr := ⟨hm, by decide, by decide, _, cd_repr _, .inl ⟨_, rfl, cr_repr ft.grd ft.room.units⟩⟩
theorem b_str (hm : X.mg "str" = none) : Blt X "str" fStr := ⟨hm, by decide, by decide, _, cd_str _, .inr ⟨_, rfl, cr_str⟩⟩
end
end Pv

/-! Pv17: how the functions on data are reckoned: backward rules. -/
namespace Pv
open PySem PySem.Spec PyProof.Rows L2
/-- it ends well, in P -/
def Ev {α : Type} (r : R α) (P : α → Sto → Prop) : Prop := match r with
  | .ok a S => P a S
  | _ => False
def Sat (o : Option (D × Sto)) (P : D → Sto → Prop) : Prop := match o with
  | some (d, S) => P d S
  | none => False
section
variable {α β : Type} {S S1 S2 : Sto} {P Q : α → Sto → Prop} {ds : En} {x y d : D} {xs : List D}
theorem Ev.of {r : R α} {a : α} (e : r = .ok a S) (h : P a S) : Ev r P := by rw [e]; exact h
theorem Ev.eq {r : R α} (h : Ev r P) : ∃ a S, r = .ok a S ∧ P a S := by
  cases r with
  | ok a S => exact ⟨a, S, rfl, h⟩
  | exc _ _ _ => exact h.elim
  | no => exact h.elim
theorem Ev.imp {r : R α} (h : Ev r P) (i : ∀ a S, P a S → Q a S) : Ev r Q := by
  obtain ⟨a, S, rfl, p⟩ := h.eq
  exact i a S p
theorem ev_bind {m : M α} {f : α → M β} {P : β → Sto → Prop} (h : Ev (m S) fun a S1 => Ev (f a S1) P) : Ev ((m >>= f) S) P := by
  obtain ⟨a, S1, e, h2⟩ := h.eq
  show Ev (M.bind m f S) P
  unfold M.bind
  rw [e]
  exact h2
theorem ev_pure {a : α} (h : P a S) : Ev ((pure a : M α) S) P := h
theorem ev_of {o : Option α} {a : α} (e : o = some a) (h : P a S) : Ev (M.of o S) P := by rw [e]; exact h
theorem ev_lift {f : Sto → Option (D × Sto)} {P : D → Sto → Prop} (h : Sat (f S) P) : Ev (M.lift f S) P := by
  unfold M.lift
  cases e : f S with
  | none => rw [e] at h; exact h.elim
  | some p => obtain ⟨a, S'⟩ := p; rw [e] at h; exact h
theorem ev_cl {m : M α} (h : Ev (m S) P) : Ev (M.cl m S) P := by
  obtain ⟨a, S1, e, p⟩ := h.eq
  unfold M.cl
  rw [e]
  exact p
theorem ev_tr {m : M α} {k : α → M Fl} {P : Fl → Sto → Prop} (h : Ev (m S) fun a S1 => Ev (k a S1) P) : Ev (M.tr m ds k S) P := by
  obtain ⟨a, S1, e, p⟩ := h.eq
  unfold M.tr
  rw [e]
  exact p
/-! ### expressions -/
variable {ma mb mc : EM} {mt mu : TM} {ms mk : AM} {P : D → Sto → Prop} {T : Bool → Sto → Prop} {L : List D → Sto → Prop}
theorem ev_K (h : P d S) : Ev (mK d ds S) P := h
theorem ev_V {i : Nat} (e : ds[i]?.join = some d) (h : P d S) : Ev (mV i ds S) P := ev_of e h
theorem ev_bin {f : F2} (h : Ev (ma ds S) fun x S1 => Ev (mb ds S1) fun y S2 => Sat (f x y S2) P) : Ev (mBin f ma mb ds S) P :=
  ev_bind (h.imp fun x S1 h => ev_bind (h.imp fun y S2 h => ev_lift h))
theorem ev_un {f : F1} (h : Ev (ma ds S) fun x S1 => Sat (f x S1) P) : Ev (mUn f ma ds S) P := ev_bind (h.imp fun x S1 h => ev_lift h)
theorem ev_nil (h : L [] S) : Ev (mNil ds S) L := h
theorem ev_cons (h : Ev (ma ds S) fun x S1 => Ev (ms ds S1) fun xs S2 => L (x :: xs) S2) : Ev (mCons ma ms ds S) L :=
  ev_bind (h.imp fun x S1 h => ev_bind (h.imp fun xs S2 h => h))
theorem ev_call {f : FA} (h : Ev (ms ds S) fun xs S1 => Sat (f xs S1) P) : Ev (mCall f ms ds S) P := ev_bind (h.imp fun x S1 h => ev_lift h)
theorem ev_app {n : Nat} {m : DM} (h : Ev (ms ds S) fun xs S1 => xs.length = n ∧ Ev (m xs S1) P) : Ev (mApp n ms m ds S) P :=
  ev_bind (h.imp fun xs S1 h => by rw [if_pos h.1]; exact ev_cl h.2)
theorem ev_appK {n1 n2 : Nat} {pr : List Nat} {m : DM} (h : Ev (ms ds S) fun xs S1 => Ev (mk ds S1) fun ys S2 => (xs.length = n1 ∧ ys.length = n2) ∧ Ev (m (pick pr (xs ++ ys)) S2) P) : Ev (mAppK n1 n2 pr ms mk m ds S) P :=
  ev_bind (h.imp fun xs S1 h => ev_bind (h.imp fun ys S2 h => by rw [if_pos h.1]; exact ev_cl h.2))
theorem ev_tup (h : Ev (ms ds S) fun xs S1 => xs.length ≤ 1000000 ∧ P (.tup xs) S1) : Ev (mTup ms ds S) P := ev_bind (h.imp fun xs S1 h => ev_of (if_pos h.1) h.2)
theorem ev_lst (h : Ev (ms ds S) fun xs S1 => xs.length ≤ 1000000 ∧ P (.lst xs) S1) : Ev (mLst ms ds S) P := ev_bind (h.imp fun xs S1 h => ev_of (if_pos h.1) h.2)
theorem ev_cell (h : Ev (ms ds S) fun xs S1 => xs.length ≤ 1000000 ∧ P (.cell S1.length) (S1 ++ [.lst xs])) : Ev (mCell ms ds S) P := ev_bind (h.imp fun xs S1 h => ev_lift (by unfold newCell; rw [if_pos h.1]; exact h.2))
theorem ev_bool (h : Ev (ma ds S) fun x S1 => ∃ b, x = .bl b ∧ T b S1) : Ev (mBool ma ds S) T := ev_bind (h.imp fun x S1 ⟨b, e, h⟩ => by subst e; exact h)
theorem ev_if (h : Ev (mt ds S) fun b S1 => (b = true → Ev (ma ds S1) P) ∧ (b = false → Ev (mb ds S1) P)) : Ev (mIf mt ma mb ds S) P :=
  ev_bind (h.imp fun b S1 h => by
    cases b with
    | true => rw [if_pos rfl]; exact h.1 rfl
    | false => rw [if_neg Bool.false_ne_true]; exact h.2 rfl)
theorem ev_and (h : Ev (mt ds S) fun b S1 => (b = true → Ev (mu ds S1) T) ∧ (b = false → T false S1)) : Ev (mAnd mt mu ds S) T :=
  ev_bind (h.imp fun b S1 h => by
    cases b with
    | true => rw [if_pos rfl]; exact h.1 rfl
    | false => rw [if_neg Bool.false_ne_true]; exact h.2 rfl)
theorem ev_or (h : Ev (mt ds S) fun b S1 => (b = true → T true S1) ∧ (b = false → Ev (mu ds S1) T)) : Ev (mOr mt mu ds S) T :=
  ev_bind (h.imp fun b S1 h => by
    cases b with
    | true => rw [if_pos rfl]; exact h.1 rfl
    | false => rw [if_neg Bool.false_ne_true]; exact h.2 rfl)
theorem ev_not (h : Ev (mt ds S) fun b S1 => T (!b) S1) : Ev (mNot mt ds S) T := ev_bind (h.imp fun b S1 h => h)
theorem ev_andV (h : Ev (ma ds S) fun x S1 => ∃ b, x = .bl b ∧ (b = true → Ev (mb ds S1) P) ∧ (b = false → P (.bl false) S1)) : Ev (mAndV ma mb ds S) P :=
  ev_bind (ev_bool (h.imp fun x S1 ⟨b, e, h1, h2⟩ => ⟨b, e, by
    cases b with
    | true => rw [if_pos rfl]; exact h1 rfl
    | false => rw [if_neg Bool.false_ne_true]; exact h2 rfl⟩))
theorem ev_orV (h : Ev (ma ds S) fun x S1 => ∃ b, x = .bl b ∧ (b = true → P (.bl true) S1) ∧ (b = false → Ev (mb ds S1) P)) : Ev (mOrV ma mb ds S) P :=
  ev_bind (ev_bool (h.imp fun x S1 ⟨b, e, h1, h2⟩ => ⟨b, e, by
    cases b with
    | true => rw [if_pos rfl]; exact h1 rfl
    | false => rw [if_neg Bool.false_ne_true]; exact h2 rfl⟩))
theorem ev_notV (h : Ev (ma ds S) fun x S1 => ∃ b, x = .bl b ∧ P (.bl (!b)) S1) : Ev (mNotV ma ds S) P := ev_bind (ev_bool (h.imp fun x S1 ⟨b, e, h1⟩ => ⟨b, e, h1⟩))
theorem ev_chain {f g : F2} (h : Ev (ma ds S) fun x S1 => Ev (mb ds S1) fun y S2 => Sat (f x y S2) fun z S3 => ∃ b, z = .bl b ∧ (b = true → Ev (mc ds S3) fun w S4 => Sat (g y w S4) P) ∧ (b = false → P (.bl false) S3)) :
    Ev (mChain f g ma mb mc ds S) P :=
  ev_bind (h.imp fun x S1 h => ev_bind (h.imp fun y S2 h => ev_bind (ev_lift (by
    cases e : f x y S2 with
    | none => rw [e] at h; exact h
    | some p =>
      obtain ⟨z, S3⟩ := p
      rw [e] at h
      obtain ⟨b, e2, h1, h2⟩ := h
      subst e2
      cases b with
      | true => exact ev_bind ((h1 rfl).imp fun w S4 h => ev_lift h)
      | false => exact h2 rfl))))
theorem ev_sl {ml mh : OM} (h : Ev (ma ds S) fun x S1 => Ev (ml ds S1) fun l S2 => Ev (mh ds S2) fun u S3 => Sat (fSl l u x S3) P) : Ev (mSl ma ml mh ds S) P :=
  ev_bind (h.imp fun x S1 h => ev_bind (h.imp fun l S2 h => ev_bind (h.imp fun u S3 h => ev_lift h)))
theorem ev_noPart {O : Option Int → Sto → Prop} (h : O none S) : Ev (mNoPart ds S) O := h
theorem ev_part {O : Option Int → Sto → Prop} (h : Ev (ma ds S) fun x S1 => ∃ i, x = .int i ∧ O (some i) S1) : Ev (mPart ma ds S) O := ev_bind (h.imp fun x S1 ⟨i, e, h⟩ => by subst e; exact h)
theorem ev_strM {f : FM} (h : Ev (ma ds S) fun x S1 => ∃ z, x = .str z ∧ Ev (ms ds S1) fun xs S2 => Sat (f (.str z) xs S2) P) : Ev (mStrM f ma ms ds S) P :=
  ev_bind (h.imp fun x S1 ⟨z, e, h⟩ => by subst e; exact ev_bind (h.imp fun xs S2 h => ev_lift h))
theorem ev_strM0 {f : FM} (h : Ev (ma ds S) fun x S1 => ∃ z, x = .str z ∧ Sat (f (.str z) [] S1) P) : Ev (mStrM0 f ma ds S) P :=
  ev_bind (h.imp fun x S1 ⟨z, e, h⟩ => by subst e; exact ev_lift h)
/-! ### what is walked -/
theorem ev_iterL (h : Ev (ma ds S) fun x S1 => ∃ xs, x = .lst xs ∧ L xs S1) : Ev (mIter ma ds S) L := ev_bind (h.imp fun x S1 ⟨z, e, h⟩ => by subst e; exact h)
theorem ev_iterT (h : Ev (ma ds S) fun x S1 => ∃ xs, x = .tup xs ∧ L xs S1) : Ev (mIter ma ds S) L := ev_bind (h.imp fun x S1 ⟨z, e, h⟩ => by subst e; exact h)
theorem ev_iterS (h : Ev (ma ds S) fun x S1 => ∃ z, x = .str z ∧ L (signs z) S1) : Ev (mIter ma ds S) L := ev_bind (h.imp fun x S1 ⟨z, e, h⟩ => by subst e; exact h)
theorem ev_iterC (h : Ev (ma ds S) fun x S1 => ∃ xs, x = .scr xs ∧ L xs S1) : Ev (mIter ma ds S) L := ev_bind (h.imp fun x S1 ⟨z, e, h⟩ => by subst e; exact h)
theorem ev_rng1 (h : Ev (ms ds S) fun xs S1 => ∃ j : Int, xs = [.int j] ∧ (j ≤ 1000000 ∧ -1000000 ≤ j) ∧ L (rngD 0 j.toNat) S1) : Ev (mRng1 ms ds S) L :=
  ev_bind (h.imp fun x S1 ⟨z, e, hz, h⟩ => by subst e; show Ev ((if z ≤ 1000000 ∧ -1000000 ≤ z then pure (rngD 0 z.toNat) else stuck : M (List D)) S1) L; rw [if_pos hz]; exact h)
theorem ev_lrng1 (h : Ev (ma ds S) fun x S1 => ∃ j : Int, x = .int j ∧ (j ≤ 1000000 ∧ -1000000 ≤ j) ∧ P (.lst (rngD 0 j.toNat)) S1) : Ev (mLRng1 ma ds S) P :=
  ev_bind (h.imp fun x S1 ⟨z, e, hz, h⟩ => by subst e; show Ev ((if z ≤ 1000000 ∧ -1000000 ≤ z then pure (.lst (rngD 0 z.toNat)) else stuck : M D) S1) P; rw [if_pos hz]; exact h)
/-! ### comprehensions -/
variable {m : IM} {g : BM} {me : EM} {vs : List Nat}
theorem ev_comp (h : Ev (m ds S) fun items S1 => items.length ≤ 1000000 ∧ Ev (compM g mt me (wipeD ds vs) items S1) fun ys S2 => P (.lst ys) S2) : Ev (mComp m g mt me vs ds S) P :=
  ev_bind (h.imp fun items S1 h => by rw [if_pos h.1]; exact ev_bind (h.2.imp fun ys S2 h => h))
theorem comp_nil (h : L [] S) : Ev (compM g mt me ds [] S) L := h
theorem comp_cons {ds1 : En} (e : g x ds = some ds1) (h : Ev (mt ds1 S) fun b S1 => (b = true → Ev (me ds1 S1) fun y S2 => Ev (compM g mt me ds xs S2) fun ys S3 => L (y :: ys) S3) ∧ (b = false → Ev (compM g mt me ds xs S1) L)) : Ev (compM g mt me ds (x :: xs) S) L := by
  unfold compM
  refine ev_bind (ev_of e (ev_bind (ev_cl (h.imp fun b S1 h => ?_))))
  cases b with
  | true => rw [if_pos rfl]; exact ev_bind (ev_cl ((h.1 rfl).imp fun y S2 h => ev_bind (h.imp fun ys S3 h => h)))
  | false => rw [if_neg Bool.false_ne_true]; exact h.2 rfl
theorem ev_yes {T : Bool → Sto → Prop} (h : T true S) : Ev (mYes ds S) T := h
/-- each by itself, the store as it was -/
theorem comp_map (t : D → Bool) (f : D → D) : ∀ {xs : List D} {L : List D → Sto → Prop}, (∀ x, x ∈ xs → ∃ ds1, g x ds = some ds1 ∧ mt ds1 S = .ok (t x) S ∧ (t x = true → me ds1 S = .ok (f x) S)) → L ((xs.filter t).map f) S → Ev (compM g mt me ds xs S) L
  | [], L, _, h => h
  | x :: xs, L, hx, h => by
    obtain ⟨ds1, e1, e2, e3⟩ := hx x List.mem_cons_self
    refine comp_cons e1 (.of e2 ⟨fun ht => ?_, fun ht => ?_⟩)
    · refine .of (e3 ht) (comp_map t f (fun z hz => hx z (List.mem_cons_of_mem _ hz)) ?_)
      rw [List.filter_cons, if_pos ht, List.map_cons] at h
      exact h
    · rw [List.filter_cons, if_neg (by rw [ht]; exact Bool.false_ne_true)] at h
      exact comp_map t f (fun z hz => hx z (List.mem_cons_of_mem _ hz)) h
theorem comp_map1 (f : D → D) {xs : List D} {L : List D → Sto → Prop} (hx : ∀ x, x ∈ xs → ∃ ds1, g x ds = some ds1 ∧ me ds1 S = .ok (f x) S) (h : L (xs.map f) S) : Ev (compM g mYes me ds xs S) L :=
  comp_map (fun _ => true) f (fun x h => let ⟨ds1, e1, e2⟩ := hx x h; ⟨ds1, e1, rfl, fun _ => e2⟩) (by rw [List.filter_eq_self.mpr (fun _ _ => rfl)]; exact h)
/-- by what holds of each and of the store -/
theorem comp_inv (I : Sto → Prop) (Y : D → Prop) : ∀ {xs : List D} {S : Sto} {L : List D → Sto → Prop}, (∀ x S, x ∈ xs → I S → ∃ ds1, g x ds = some ds1 ∧ Ev (me ds1 S) fun y S' => Y y ∧ I S') → I S → (∀ ys S', ys.length = xs.length → (∀ y, y ∈ ys → Y y) → I S' → L ys S') → Ev (compM g mYes me ds xs S) L
  | [], S, L, _, i, h => h [] S rfl (fun _ h => by cases h) i
  | x :: xs, S, L, hx, i, h => by
    obtain ⟨ds1, e1, e2⟩ := hx x S List.mem_cons_self i
    refine comp_cons e1 (ev_yes ⟨fun _ => e2.imp fun y S' ⟨hy, i'⟩ => ?_, fun z => by cases z⟩)
    exact comp_inv I Y (fun z S hz => hx z S (List.mem_cons_of_mem _ hz)) i' fun ys S'' hl hys i'' => h _ _ (by rw [List.length_cons, List.length_cons, hl]) (fun z hz => (List.mem_cons.mp hz).elim (fun e => e ▸ hy) (hys z)) i''
end
/-! ### statements -/
section
variable {S : Sto} {ds : En} {P : Fl → Sto → Prop} {m m2 mb : SM} {ma : EM} {mt : TM} {ms : AM}
def Aft (m2 : SM) (P : Fl → Sto → Prop) : Fl → Sto → Prop
  | .nx ds, S => Ev (m2 ds S) P
  | fl, S => P fl S
theorem ev_seq (h : Ev (m ds S) (Aft m2 P)) : Ev (mSeq m m2 ds S) P := ev_bind (h.imp fun fl S1 h => by cases fl <;> exact h)
theorem aft_nx (h : Ev (m2 ds S) P) : Aft m2 P (.nx ds) S := h
theorem aft_rt {d : D} (h : P (.rt d) S) : Aft m2 P (.rt d) S := h
theorem aft_bk (h : P (.bk ds) S) : Aft m2 P (.bk ds) S := h
theorem aft_ct (h : P (.ct ds) S) : Aft m2 P (.ct ds) S := h
theorem ev_next (h : P (.nx ds) S) : Ev (mNext ds S) P := h
theorem ev_set {i : Nat} (h : Ev (ma ds S) fun d S1 => P (.nx (ds.set i (some d))) S1) : Ev (mSet i ma ds S) P := ev_tr (h.imp fun d S1 h => h)
theorem ev_ret (h : Ev (ma ds S) fun d S1 => P (.rt d) S1) : Ev (mRet ma ds S) P := ev_tr (h.imp fun d S1 h => h)
theorem ev_expr (h : Ev (ma ds S) fun _ S1 => P (.nx ds) S1) : Ev (mExpr ma ds S) P := ev_tr (h.imp fun d S1 h => h)
theorem ev_ifS (h : Ev (mt ds S) fun b S1 => (b = true → Ev (m ds S1) P) ∧ (b = false → Ev (m2 ds S1) P)) : Ev (mIfS mt m m2 ds S) P :=
  ev_tr (h.imp fun b S1 h => by
    cases b with
    | true => rw [if_pos rfl]; exact h.1 rfl
    | false => rw [if_neg Bool.false_ne_true]; exact h.2 rfl)
theorem ev_par {i j : Nat} (h : Ev (ms ds S) fun xs S1 => ∃ x y, xs = [x, y] ∧ P (.nx ((ds.set i (some x)).set j (some y))) S1) : Ev (mPar i j ms ds S) P := ev_tr (h.imp fun xs S1 ⟨x, y, e, h⟩ => by subst e; exact h)
theorem ev_asg {g : GM} (h : Ev (ma ds S) fun d S1 => Ev (g d ds S1) fun ds1 S2 => P (.nx ds1) S2) : Ev (mAsg ma g ds S) P := ev_tr (h.imp fun d S1 h => ev_tr (h.imp fun ds1 S2 h => h))
theorem ev_tupG {is : List Nat} {xs : List D} {G : En → Sto → Prop} (hl : xs.length = is.length) (h : G (setAll is xs ds) S) : Ev (mTupG is (.tup xs) ds S) G := by
  unfold mTupG
  simp only
  rw [if_pos hl]
  exact h
theorem ev_name {i : Nat} {d : D} {G : En → Sto → Prop} (h : G (ds.set i (some d)) S) : Ev (mName i d ds S) G := h
theorem ev_sub {mo mi : EM} {d : D} {G : En → Sto → Prop} (h : Ev (mo ds S) fun o S1 => Ev (mi ds S1) fun i S2 => ∃ k j xs n, o = .cell k ∧ i = .int j ∧ S2[k]? = some (.lst xs) ∧ ixN xs.length j = some n ∧ G ds (S2.set k (.lst (xs.set n d)))) : Ev (mSub mo mi d ds S) G :=
  ev_bind (h.imp fun o S1 h => ev_bind (h.imp fun i S2 ⟨k, j, xs, n, e1, e2, e3, e4, h2⟩ => by
    subst e1 e2
    simp only [e3, e4]
    exact h2))
theorem ev_for {mi : IM} {g : GM} (h : Ev (mi ds S) fun items S1 => Ev (loopM g mb items ds S1) P) : Ev (mFor mi g mb ds S) P := ev_tr (h.imp fun items S1 h => h)
/-- behind a turn -/
def Turn (next : En → Sto → Prop) (P : Fl → Sto → Prop) : Fl → Sto → Prop
  | .nx ds, S => next ds S
  | .ct ds, S => next ds S
  | .bk ds, S => P (.nx ds) S
  | fl, S => P fl S
theorem loop_nil {g : GM} (h : P (.nx ds) S) : Ev (loopM g mb [] ds S) P := h
theorem loop_cons {g : GM} {x : D} {xs : List D} (h : Ev (g x ds S) fun ds1 S1 => Ev (mb ds1 S1) (Turn (fun ds2 S2 => Ev (loopM g mb xs ds2 S2) P) P)) : Ev (loopM g mb (x :: xs) ds S) P := by
  unfold loopM
  exact ev_tr (h.imp fun ds1 S1 h => ev_bind (h.imp fun fl S2 h => by cases fl <;> exact h))
end
/-! ### defs -/
section
variable {S S1 : Sto} {P : D → Sto → Prop} {m : SM} {xs : List D} {n : Nat}
/-- no cell within -/
def flatS (S : Sto) : Prop := clS 0 S = true
mutual
theorem clD_up {k : Nat} : ∀ {d : D}, clD 0 d = true → clD k d = true
  | .cell j, h => by have h' : decide (j < 0) = true := h; exact absurd (of_decide_eq_true h') (by omega)
  | .tup xs, h => clL_up (d := xs) h
  | .lst xs, h => clL_up (d := xs) h
  | .scr xs, h => clL_up (d := xs) h
  | .non, _ => rfl
  | .bl _, _ => rfl
  | .int _, _ => rfl
  | .str _, _ => rfl
  | .ty _, _ => rfl
theorem clL_up {k : Nat} : ∀ {d : List D}, clL 0 d = true → clL k d = true
  | [], _ => rfl
  | x :: xs, h => by
    have h' : (clD 0 x && clL 0 xs) = true := h
    rw [Bool.and_eq_true] at h'
    show (clD k x && clL k xs) = true
    rw [clD_up h'.1, clL_up h'.2]; rfl
end
mutual
theorem fz_cl {k : Nat} {g : Nat → Option (List D)} : ∀ {d : D}, clD 0 d = true → fzD k g d = some d
  | .cell j, h => by have h' : decide (j < 0) = true := h; exact absurd (of_decide_eq_true h') (by omega)
  | .tup xs, h => by show (fzL k g xs).map D.tup = _; rw [fzL_cl h]; rfl
  | .lst xs, h => by show (fzL k g xs).map D.lst = _; rw [fzL_cl h]; rfl
  | .scr xs, h => by show (fzL k g xs).map D.scr = _; rw [fzL_cl h]; rfl
  | .non, _ => rfl
  | .bl _, _ => rfl
  | .int _, _ => rfl
  | .str _, _ => rfl
  | .ty _, _ => rfl
theorem fzL_cl {k : Nat} {g : Nat → Option (List D)} : ∀ {d : List D}, clL 0 d = true → fzL k g d = some d
  | [], _ => rfl
  | x :: xs, h => by
    have h' : (clD 0 x && clL 0 xs) = true := h
    rw [Bool.and_eq_true] at h'
    show (match fzD k g x, fzL k g xs with
      | some y, some ys => some (y :: ys)
      | _, _ => none) = _
    rw [fz_cl h'.1, fzL_cl h'.2]
end
theorem clS_up {k : Nat} (h : flatS S) : clS k S = true := by
  unfold flatS clS at h
  unfold clS
  rw [List.all_eq_true] at h ⊢
  intro c hc
  have := h c hc
  cases c with
  | lst xs => exact clL_up this
/-- what a body's end gives the caller -/
def Ret (P : D → Sto → Prop) : Fl → Sto → Prop
  | .rt d, S => P d S
  | .nx _, S => P .non S
  | _, _ => False
theorem ev_fnK (h : Ev (m (stD n xs) S) (Ret P)) : Ev (mFnK n m xs S) P := ev_bind (h.imp fun fl S1 h => by cases fl <;> exact h)
theorem ev_fnT (h : Ev (m (stD n xs) S) (Ret fun d S1 => S1.length = S.length ∧ flatS S1 ∧ clD 0 d = true ∧ P d S1)) : Ev (mFnT n m xs S) P := by
  obtain ⟨d, S1, e, hl, hf, hd, p⟩ := (ev_fnK h).eq
  unfold mFnT
  rw [e]
  show Ev (cutM S.length d S1) P
  unfold cutM
  rw [← hl, List.take_length, if_pos ⟨Nat.le_refl _, clS_up hf⟩, fz_cl hd]
  exact p
end
end Pv

/-! Pv18: the operations by kinds. -/
namespace Pv
open PySem PySem.Spec PyProof.Rows L2
/-- the text of these code points -/
abbrev txt (l : List Nat) : D := .str (SX.S l)
section
variable {X : Cx} {W : Wsh X.K} {pos p : Pos}
theorem x_strL {l : List Nat} {z : Str} {q : Nat} (e : z = SX.S l := by decide +kernel) : PEm X W (.Constant (.str z) q pos) (mK (txt l)) := by subst e; exact x_str
theorem x_gSL {x z : Str} {l : List Nat} {tk : Tok} (hm : X.mg x = some (.str z tk)) (e : z = SX.S l := by decide +kernel) (hg : Gl X x := by rfl) (hd : (x == ("__debug__" : Str)) = false := by decide) : PEm X W (.Name x p) (mK (txt l)) := by subst e; exact x_gS hm hg hd
end
section
variable {S : Sto} {P : D → Sto → Prop} {i j : Int} {a b : List Nat} {xs ys : List D} {x y d : D} {k : Nat}
theorem tl_S (l : List Nat) : (SX.S l).cps.toList = l := rfl
theorem len_S (l : List Nat) : (SX.S l).length = l.length := SX.S_len l
/-! + - * % // ** -/
theorem s_add_ii (h : P (.int (i + j)) S) : Sat (fAdd (.int i) (.int j) S) P := h
theorem s_add_ss (hl : a.length + b.length ≤ 1000000) (h : P (txt (a ++ b)) S) : Sat (fAdd (txt a) (txt b) S) P := by
  show Sat (if (SX.S a).length + (SX.S b).length ≤ 1000000 then some (.str (SX.S a ++ SX.S b), S) else none) P
  rw [if_pos (by rw [len_S, len_S]; exact hl), SX.S_cat]
  exact h
theorem s_add_tt (hl : xs.length + ys.length ≤ 1000000) (h : P (.tup (xs ++ ys)) S) : Sat (fAdd (.tup xs) (.tup ys) S) P := by
  show Sat (if xs.length + ys.length ≤ 1000000 then some (.tup (xs ++ ys), S) else none) P
  rw [if_pos hl]
  exact h
theorem s_add_ll (hl : xs.length + ys.length ≤ 1000000) (h : P (.lst (xs ++ ys)) S) : Sat (fAdd (.lst xs) (.lst ys) S) P := by
  show Sat (if xs.length + ys.length ≤ 1000000 then some (.lst (xs ++ ys), S) else none) P
  rw [if_pos hl]
  exact h
theorem s_sub (h : P (.int (i - j)) S) : Sat (fSub (.int i) (.int j) S) P := h
theorem s_mul_ii (hc : (-18446744073709551616 < i ∧ i < 18446744073709551616) ∨ (-18446744073709551616 < j ∧ j < 18446744073709551616)) (h : P (.int (i * j)) S) : Sat (fMul (.int i) (.int j) S) P := by
  show Sat (if (decide (-18446744073709551616 < i ∧ i < 18446744073709551616) || decide (-18446744073709551616 < j ∧ j < 18446744073709551616)) = true then some (.int (i * j), S) else none) P
  rw [if_pos (by rw [Bool.or_eq_true, decide_eq_true_eq, decide_eq_true_eq]; exact hc)]
  exact h
theorem rep_S (a : List Nat) (n : Nat) : repS (SX.S a) n = SX.S (List.replicate n a).flatten := rfl
theorem s_mul_si (hc : 0 ≤ j ∧ j ≤ 1000000 ∧ a.length * j.toNat ≤ 1000000) (h : P (txt (List.replicate j.toNat a).flatten) S) : Sat (fMul (txt a) (.int j) S) P := by
  show Sat (if 0 ≤ j ∧ j ≤ 1000000 ∧ (SX.S a).length * j.toNat ≤ 1000000 then some (.str (repS (SX.S a) j.toNat), S) else none) P
  rw [if_pos (by rw [len_S]; exact hc)]
  exact h
theorem s_mul_li (hc : 0 ≤ j ∧ j ≤ 1000000 ∧ xs.length * j.toNat ≤ 1000000) (h : P (.lst (List.replicate j.toNat xs).flatten) S) : Sat (fMul (.lst xs) (.int j) S) P := by
  show Sat (if 0 ≤ j ∧ j ≤ 1000000 ∧ xs.length * j.toNat ≤ 1000000 then some (.lst (List.replicate j.toNat xs).flatten, S) else none) P
  rw [if_pos hc]
  exact h
theorem s_mod (hj : 0 < j) (h : P (.int (i % j)) S) : Sat (fMod (.int i) (.int j) S) P := by
  show Sat (if 0 < j then some (.int (i % j), S) else none) P
  rw [if_pos hj]
  exact h
theorem s_div (hj : 0 < j ∧ j < 1073741824) (h : P (.int (i / j)) S) : Sat (fDiv (.int i) (.int j) S) P := by
  show Sat (if 0 < j ∧ j < 1073741824 then some (.int (i / j), S) else none) P
  rw [if_pos hj]
  exact h
theorem s_pow (hj : 0 ≤ j ∧ (Builtin.Int.intBits i : Int) * j ≤ 134217728) (h : P (.int (i ^ j.toNat)) S) : Sat (fPow (.int i) (.int j) S) P := by
  show Sat (if 0 ≤ j ∧ (Builtin.Int.intBits i : Int) * j ≤ 134217728 then some (.int (i ^ j.toNat), S) else none) P
  rw [if_pos hj]
  exact h
theorem s_neg (h : P (.int (-i)) S) : Sat (fNeg (.int i) S) P := h
/-! comparisons -/
theorem s_lt (h : P (.bl (decide (i < j))) S) : Sat (fLt (.int i) (.int j) S) P := h
theorem s_le (h : P (.bl (decide (i ≤ j))) S) : Sat (fLe (.int i) (.int j) S) P := h
theorem s_gt (h : P (.bl (decide (j < i))) S) : Sat (fGt (.int i) (.int j) S) P := h
theorem s_ge (h : P (.bl (decide (j ≤ i))) S) : Sat (fGe (.int i) (.int j) S) P := h
theorem S_dec (a b : List Nat) : decide (SX.S a = SX.S b) = decide (a = b) := by
  by_cases h : a = b
  · subst h; simp
  · rw [decide_eq_false h, decide_eq_false fun z => h (SX.S_inj z)]
theorem s_eq_ss (h : P (.bl (decide (a = b))) S) : Sat (fEq (txt a) (txt b) S) P := by
  show P (.bl (decide (SX.S a = SX.S b))) S
  rw [S_dec]
  exact h
theorem s_ne_ss (h : P (.bl (!decide (a = b))) S) : Sat (fNe (txt a) (txt b) S) P := by
  show P (.bl (!decide (SX.S a = SX.S b))) S
  rw [S_dec]
  exact h
theorem s_eq_st {u v : Str} (h : P (.bl (decide (u = v))) S) : Sat (fEq (.str u) (.str v) S) P := h
theorem s_ne_st {u v : Str} (h : P (.bl (!decide (u = v))) S) : Sat (fNe (.str u) (.str v) S) P := h
theorem s_eq_ii (h : P (.bl (decide (i = j))) S) : Sat (fEq (.int i) (.int j) S) P := h
theorem s_ne_ii (h : P (.bl (!decide (i = j))) S) : Sat (fNe (.int i) (.int j) S) P := h
mutual
theorem vw_cl : ∀ {d : D}, clD 0 d = true → eqOk d = true → vw S d = d
  | .cell j, h, _ => by have h' : decide (j < 0) = true := h; exact absurd (of_decide_eq_true h') (by omega)
  | .tup xs, _, _ => rfl
  | .lst xs, _, _ => rfl
  | .scr xs, _, h => by exact absurd h (by simp [eqOk, pln])
  | .non, _, _ => rfl
  | .bl _, _, _ => rfl
  | .int _, _, _ => rfl
  | .str _, _, _ => rfl
  | .ty _, _, _ => rfl
end
theorem pln_vw : ∀ {d : D}, pln d = true → vw S d = d
  | .cell j, h => by cases h
  | .tup xs, _ => rfl
  | .lst xs, _ => rfl
  | .scr xs, h => by cases h
  | .non, _ => rfl
  | .bl _, _ => rfl
  | .int _, _ => rfl
  | .str _, _ => rfl
  | .ty _, h => by cases h
theorem eqOk_vw (h : eqOk d = true) : vw S d = d := pln_vw (by unfold eqOk at h; rw [Bool.and_eq_true] at h; exact h.1)
theorem s_eqD {n : Bool} (hx : eqOk x = true) (hy : eqOk y = true) (h : P (.bl (n ^^ deq x y)) S) : Sat (fEqD n x y S) P := by
  unfold fEqD
  rw [eqOk_vw hx, eqOk_vw hy, hx, hy]
  exact h
theorem s_eq_D (hx : eqOk x = true) (hy : eqOk y = true) (h : P (.bl (deq x y)) S) : Sat (fEq x y S) P := by
  unfold fEq
  split
  · rename_i u v
    have e : deq (.str u) (.str v) = decide (u = v) := by
      show (u == v) = _
      by_cases z : u = v
      · subst z; simp
      · rw [decide_eq_false z]; simpa using z
    rw [e] at h
    exact h
  · rename_i u v
    have e : deq (.int u) (.int v) = decide (u = v) := by
      show (u == v) = _
      by_cases z : u = v
      · subst z; simp
      · rw [decide_eq_false z]; simpa using z
    rw [e] at h
    exact h
  · exact s_eqD hx hy (by simpa using h)
theorem s_ne_D (hx : eqOk x = true) (hy : eqOk y = true) (h : P (.bl (!deq x y)) S) : Sat (fNe x y S) P := by
  unfold fNe
  split
  · rename_i u v
    have e : deq (.str u) (.str v) = decide (u = v) := by
      show (u == v) = _
      by_cases z : u = v
      · subst z; simp
      · rw [decide_eq_false z]; simpa using z
    rw [e] at h
    exact h
  · rename_i u v
    have e : deq (.int u) (.int v) = decide (u = v) := by
      show (u == v) = _
      by_cases z : u = v
      · subst z; simp
      · rw [decide_eq_false z]; simpa using z
    rw [e] at h
    exact h
  · exact s_eqD hx hy (by simpa using h)
theorem s_inS {c : Nat} {z : List Nat} (h : P (.bl (decide (c ∈ z))) S) : Sat (fIn (txt [c]) (txt z) S) P := h
theorem s_is (b1 b2 : Bool) (h : P (.bl (decide (b1 = b2))) S) : Sat (fIs (.bl b1) (.bl b2) S) P := h
theorem s_isNot (b1 b2 : Bool) (h : P (.bl (!decide (b1 = b2))) S) : Sat (fIsNot (.bl b1) (.bl b2) S) P := h
/-! functions -/
theorem s_len_s (hl : a.length ≤ 1000000) (h : P (.int a.length) S) : Sat (fLen [txt a] S) P := by
  show Sat (if (SX.S a).length ≤ 1000000 then some (.int (SX.S a).length, S) else none) P
  rw [len_S, if_pos hl]
  exact h
theorem s_len_t (h : P (.int xs.length) S) : Sat (fLen [.tup xs] S) P := h
theorem s_len_l (h : P (.int xs.length) S) : Sat (fLen [.lst xs] S) P := h
theorem s_len_c (h : P (.int xs.length) S) : Sat (fLen [.scr xs] S) P := h
theorem s_len_cell (e : S[k]? = some (.lst xs)) (h : P (.int xs.length) S) : Sat (fLen [.cell k] S) P := by
  unfold fLen
  simp only [vw, e]
  exact h
theorem s_abs (h : P (.int (if i < 0 then -i else i)) S) : Sat (fAbs [.int i] S) P := h
theorem s_int (h : P (.int i) S) : Sat (fInt [.int i] S) P := h
theorem s_intB {t : Bool} (h : P (.int (if t then 1 else 0)) S) : Sat (fInt [.bl t] S) P := h
theorem s_min2 (h : P (.int (if j < i then j else i)) S) : Sat (fMin [.int i, .int j] S) P := h
theorem s_max2 (h : P (.int (if j > i then j else i)) S) : Sat (fMax [.int i, .int j] S) P := h
theorem s_all {bs : List Bool} (h : P (.bl (bs.all id)) S) : Sat (fAll [.lst (bs.map D.bl)] S) P := by
  unfold fAll
  simp only [vw, bools_map]
  exact h
theorem s_any {bs : List Bool} (h : P (.bl (bs.any id)) S) : Sat (fAny [.lst (bs.map D.bl)] S) P := by
  unfold fAny
  simp only [vw, bools_map]
  exact h
theorem s_sum {ns : List Int} (h : P (.int ns.sum) S) : Sat (fSum [.lst (ns.map D.int)] S) P := by
  unfold fSum
  simp only [vw, ints_map]
  exact h
theorem s_list_l (h : P (.lst xs) S) : Sat (fList [.lst xs] S) P := h
theorem s_list_t (h : P (.lst xs) S) : Sat (fList [.tup xs] S) P := h
theorem s_tuple_l (h : P (.tup xs) S) : Sat (fTuple [.lst xs] S) P := h
theorem s_tuple_t (h : P (.tup xs) S) : Sat (fTuple [.tup xs] S) P := h
/-- kinds -/
def kindOk (d : D) : Bool := ["NoneType", "bool", "int", "str", "tuple", "list"].contains (tyN d)
theorem s_isi {n : String} (hk : kindOk (vw S x) = true) (hn : ["bool", "int", "str", "tuple", "list", "dict"].contains n = true) (h : P (.bl (isiB (tyN (vw S x)) n)) S) : Sat (fIsi [x, .ty n] S) P := by
  show Sat (if (kindOk (vw S x) && ["bool", "int", "str", "tuple", "list", "dict"].contains n) = true then some (.bl (isiB (tyN (vw S x)) n), S) else none) P
  rw [hk, hn]
  exact h
theorem reOk_vw (h : reOk d = true) : vw S d = d := by
  cases d <;> first | rfl | (exact absurd h (by simp [reOk, shOk]))
theorem s_repr (hx : reOk x = true) (h : P (.str (shw x)) S) : Sat (fRepr [x] S) P := by
  show Sat (if reOk (vw S x) = true then some (.str (shw (vw S x)), S) else none) P
  rw [reOk_vw hx, if_pos hx]
  exact h
/-! subscripts, slices -/
theorem s_ix_t (e : atI xs i = some d) (h : P d S) : Sat (fIx (.tup xs) (.int i) S) P := by
  show Sat ((atI xs i).map fun d => (d, S)) P
  rw [e]; exact h
theorem s_ix_l (e : atI xs i = some d) (h : P d S) : Sat (fIx (.lst xs) (.int i) S) P := by
  show Sat ((atI xs i).map fun d => (d, S)) P
  rw [e]; exact h
theorem s_ix_c (e : atI xs i = some d) (h : P d S) : Sat (fIx (.scr xs) (.int i) S) P := by
  show Sat ((atI xs i).map fun d => (d, S)) P
  rw [e]; exact h
theorem s_ix_cell (e0 : S[k]? = some (.lst xs)) (e : atI xs i = some d) (h : P d S) : Sat (fIx (.cell k) (.int i) S) P := by
  unfold fIx
  simp only [vw, e0, e]
  exact h
theorem s_ix_s {c : Nat} (hl : a.length ≤ 1000000) (e : atI a i = some c) (h : P (txt [c]) S) : Sat (fIx (txt a) (.int i) S) P := by
  show Sat (if (SX.S a).length ≤ 1000000 then (atI (SX.S a).cps.toList i).map fun c => (.str ⟨#[c]⟩, S) else none) P
  rw [len_S, if_pos hl, tl_S, e]
  exact h
variable {lo hi : Option Int}
theorem s_sl_s (hl : a.length ≤ 1000000) (h : P (txt (cutL a lo hi)) S) : Sat (fSl lo hi (txt a) S) P := by
  show Sat (if (SX.S a).length ≤ 1000000 then some (.str ⟨(cutL (SX.S a).cps.toList lo hi).toArray⟩, S) else none) P
  rw [len_S, if_pos hl]
  exact h
theorem s_sl_t (h : P (.tup (cutL xs lo hi)) S) : Sat (fSl lo hi (.tup xs) S) P := h
theorem s_sl_l (h : P (.lst (cutL xs lo hi)) S) : Sat (fSl lo hi (.lst xs) S) P := h
theorem s_sl_c (h : P (.lst (cutL xs lo hi)) S) : Sat (fSl lo hi (.scr xs) S) P := h
theorem s_rev_s (hl : a.length ≤ 1000000) (h : P (txt a.reverse) S) : Sat (fRev (txt a) S) P := by
  show Sat (if (SX.S a).length ≤ 1000000 then some (.str ⟨(SX.S a).cps.toList.reverse.toArray⟩, S) else none) P
  rw [len_S, if_pos hl]
  exact h
theorem s_rev_t (h : P (.tup xs.reverse) S) : Sat (fRev (.tup xs) S) P := h
theorem s_rev_l (h : P (.lst xs.reverse) S) : Sat (fRev (.lst xs) S) P := h
end
/-! ### slices of lists -/
section
variable {α : Type} (xs : List α)
theorem cut_to {n : Nat} : cutL xs none (some (n : Int)) = xs.take n := by
  unfold cutL
  rw [HT.sIx_nat, HT.sIx_none, List.drop_zero, Nat.sub_zero]
  by_cases h : n ≤ xs.length
  · rw [Nat.min_eq_left h]
  · rw [Nat.min_eq_right (by omega), List.take_length, List.take_of_length_le (by omega)]
theorem cut_from {n : Nat} : cutL xs (some (n : Int)) none = xs.drop n := by
  unfold cutL
  rw [HT.sIx_nat, HT.sIx_none]
  by_cases h : n ≤ xs.length
  · rw [Nat.min_eq_left h]
    exact List.take_of_length_le (by rw [List.length_drop]; omega)
  · rw [Nat.min_eq_right (by omega), Nat.sub_self, List.take_zero, List.drop_eq_nil_of_le (by omega)]
theorem cut_butlast : cutL xs none (some (-1)) = xs.dropLast := by
  unfold cutL HT.sIx
  simp
  rw [List.dropLast_eq_take]
  congr 1
  omega
end
end Pv

/-! Pv19: the drawn numbers: a list of three that changes. -/
namespace Pv
open PySem PySem.Spec PyProof.Rows L2
/-- own digits, the small number, how often it was asked (at most n times) -/
def Pot (n : Int) (c : Cl) : Prop := ∃ own p1 p2 : Int, c = .lst [.int own, .int p1, .int p2] ∧ 0 ≤ own ∧ 0 ≤ p1 ∧ p1 < 2305843009213693951 ∧ 0 ≤ p2 ∧ p2 ≤ n
/-- the store S0, a pot at k -/
structure PS (k : Nat) (n : Int) (S0 S : Sto) : Prop where
  ex : ∃ c, Pot n c ∧ S = S0.set k c
  lt : k < S0.length
  flat : flatS S0
section
variable {k : Nat} {n m : Int} {S0 S : Sto}
theorem Pot.up {c : Cl} (h : Pot n c) (l : n ≤ m) : Pot m c := by
  obtain ⟨a, b, d, e, h1, h2, h3, h4, h5⟩ := h
  exact ⟨a, b, d, e, h1, h2, h3, h4, by omega⟩
theorem Pot.flat {c : Cl} (h : Pot n c) : ∀ c', c' = c → (match c' with | .lst xs => clL 0 xs) = true := by
  obtain ⟨a, b, d, e, _⟩ := h
  intro c' q
  subst q e
  rfl
theorem PS.up (h : PS k n S0 S) (l : n ≤ m) : PS k m S0 S := ⟨let ⟨c, p, e⟩ := h.ex; ⟨c, p.up l, e⟩, h.lt, h.flat⟩
theorem PS.len (h : PS k n S0 S) : S.length = S0.length := by
  obtain ⟨c, _, e⟩ := h.ex
  rw [e, List.length_set]
theorem flatS_set {c : Cl} (h : flatS S) (hc : (match c with | .lst xs => clL 0 xs) = true) : flatS (S.set k c) := by
  unfold flatS clS at *
  rw [List.all_eq_true] at *
  intro x hx
  rcases List.mem_or_eq_of_mem_set hx with hx | rfl
  · exact h x hx
  · exact hc
theorem PS.fl (h : PS k n S0 S) : flatS S := by
  obtain ⟨c, p, e⟩ := h.ex
  rw [e]
  exact flatS_set h.flat (p.flat c rfl)
theorem PS.at (h : PS k n S0 S) : ∃ own p1 p2 : Int, S[k]? = some (.lst [.int own, .int p1, .int p2]) ∧ 0 ≤ own ∧ 0 ≤ p1 ∧ p1 < 2305843009213693951 ∧ 0 ≤ p2 ∧ p2 ≤ n := by
  obtain ⟨c, ⟨a, b, d, e, q⟩, e2⟩ := h.ex
  subst e e2
  exact ⟨a, b, d, by rw [List.getElem?_set_self h.lt], q⟩
theorem PS.put (h : PS k n S0 S) {c : Cl} (p : Pot m c) : PS k m S0 (S.set k c) := by
  obtain ⟨c0, _, e⟩ := h.ex
  refine ⟨⟨c, p, ?_⟩, h.lt, h.flat⟩
  rw [e, List.set_set]
theorem atI0 {α : Type} {a b c : α} : atI [a, b, c] 0 = some a := rfl
end
/-! ### branches -/
theorem br {c A B : Prop} [Decidable c] (h1 : c → A) (h2 : ¬ c → B) : (decide c = true → A) ∧ (decide c = false → B) := ⟨fun h => h1 (of_decide_eq_true h), fun h => h2 (of_decide_eq_false h)⟩
theorem brN {c A B : Prop} [Decidable c] (h1 : ¬ c → A) (h2 : c → B) : ((!decide c) = true → A) ∧ ((!decide c) = false → B) :=
  ⟨fun h => h1 (of_decide_eq_false (by simpa using h)), fun h => h2 (of_decide_eq_true (by simpa using h))⟩
theorem brT {A B : Prop} (h : A) : (true = true → A) ∧ (true = false → B) := ⟨fun _ => h, fun z => by cases z⟩
theorem brF {A B : Prop} (h : B) : (false = true → A) ∧ (false = false → B) := ⟨(fun z => by cases z), fun _ => h⟩
theorem brNT {A B : Prop} (h : B) : ((!true) = true → A) ∧ ((!true) = false → B) := ⟨(fun z => by cases z), fun _ => h⟩
theorem brNF {A B : Prop} (h : A) : ((!false) = true → A) ∧ ((!false) = false → B) := ⟨fun _ => h, fun z => by cases z⟩
theorem exB {b : Bool} {Q : Bool → Prop} (h : Q b) : ∃ c, D.bl b = .bl c ∧ Q c := ⟨b, rfl, h⟩
theorem exI {i : Int} {Q : Int → Prop} (h : Q i) : ∃ c, D.int i = .int c ∧ Q c := ⟨i, rfl, h⟩
theorem exS {z : Str} {Q : Str → Prop} (h : Q z) : ∃ c, D.str z = .str c ∧ Q c := ⟨z, rfl, h⟩
theorem ex2 {x y : D} {Q : D → D → Prop} (h : Q x y) : ∃ a b, [x, y] = [a, b] ∧ Q a b := ⟨x, y, rfl, h⟩
/-! ### comprehensions over lists of any make -/
section
variable {α : Type} {S : Sto} {ds : En} {g : BM} {mt : TM} {me : EM}
theorem comp_filtL (i : α → D) (t : α → Bool) (f : α → D) : ∀ {xs : List α} {L : List D → Sto → Prop}, (∀ a, a ∈ xs → ∃ ds1, g (i a) ds = some ds1 ∧ Ev (mt ds1 S) (fun b S' => b = t a ∧ S' = S) ∧ (t a = true → Ev (me ds1 S) fun d S' => d = f a ∧ S' = S)) →
    L ((xs.filter t).map f) S → Ev (compM g mt me ds (xs.map i) S) L
  | [], L, _, h => h
  | a :: xs, L, hx, h => by
    obtain ⟨ds1, e1, e2, e3⟩ := hx a List.mem_cons_self
    refine comp_cons e1 (e2.imp fun b S1 ⟨hb, hS⟩ => ?_)
    rw [hb, hS]
    refine ⟨fun ht => (e3 ht).imp fun d S2 ⟨hd, hS2⟩ => ?_, fun ht => ?_⟩
    · rw [hd, hS2]
      rw [List.filter_cons, if_pos ht, List.map_cons] at h
      exact comp_filtL i t f (fun z hz => hx z (List.mem_cons_of_mem _ hz)) h
    · rw [List.filter_cons, if_neg (by rw [ht]; exact Bool.false_ne_true)] at h
      exact comp_filtL i t f (fun z hz => hx z (List.mem_cons_of_mem _ hz)) h
theorem comp_mapL (i : α → D) (f : α → D) {xs : List α} {L : List D → Sto → Prop} (hx : ∀ a, a ∈ xs → ∃ ds1, g (i a) ds = some ds1 ∧ Ev (me ds1 S) fun d S' => d = f a ∧ S' = S) (h : L (xs.map f) S) : Ev (compM g mYes me ds (xs.map i) S) L :=
  comp_filtL i (fun _ => true) f (fun a ha => let ⟨ds1, e1, e2⟩ := hx a ha; ⟨ds1, e1, ev_yes ⟨rfl, rfl⟩, fun _ => e2⟩) (by rw [List.filter_eq_self.mpr (fun _ _ => rfl)]; exact h)
/-- by what holds of each and of the store, counted -/
theorem comp_invN (I : Nat → Sto → Prop) (Y : D → Prop) (N : Nat) : ∀ {xs : List D} (n : Nat) {S : Sto} {L : List D → Sto → Prop}, (∀ x i S, x ∈ xs → i < N → I i S → ∃ ds1, g x ds = some ds1 ∧ Ev (me ds1 S) fun y S' => Y y ∧ I (i + 1) S') → n + xs.length ≤ N → I n S →
    (∀ ys S', ys.length = xs.length → (∀ y, y ∈ ys → Y y) → I (n + xs.length) S' → L ys S') → Ev (compM g mYes me ds xs S) L
  | [], n, S, L, _, _, i, h => h [] S rfl (fun _ h => by cases h) i
  | x :: xs, n, S, L, hx, hN, i, h => by
    rw [List.length_cons] at hN
    obtain ⟨ds1, e1, e2⟩ := hx x n S List.mem_cons_self (by omega) i
    refine comp_cons e1 (ev_yes ⟨fun _ => e2.imp fun y S' ⟨hy, i'⟩ => ?_, fun z => by cases z⟩)
    exact comp_invN I Y N (n + 1) (fun z n S hz => hx z n S (List.mem_cons_of_mem _ hz)) (by omega) i' fun ys S'' hl hys i'' =>
      h _ _ (by rw [List.length_cons, List.length_cons, hl]) (fun z hz => (List.mem_cons.mp hz).elim (fun e => e ▸ hy) (hys z)) (by rw [List.length_cons]; rw [Nat.add_assoc, Nat.add_comm 1] at i''; exact i'')
end
section
variable {S : Sto} {P : D → Sto → Prop} {x : D}
theorem s_isi' {n : String} {b : Bool} (hk : kindOk (vw S x) = true) (hn : ["bool", "int", "str", "tuple", "list", "dict"].contains n = true) (e : isiB (tyN (vw S x)) n = b) (h : P (.bl b) S) : Sat (fIsi [x, .ty n] S) P := by
  subst e; exact s_isi hk hn h
theorem ys_of {f : Nat → D} : ∀ {ys : List D} {p : Nat → Prop}, (∀ y, y ∈ ys → ∃ c, p c ∧ y = f c) → ∃ l : List Nat, ys = l.map f ∧ ∀ c, c ∈ l → p c
  | [], _, _ => ⟨[], rfl, fun _ h => by cases h⟩
  | y :: ys, p, h => by
    obtain ⟨c, hc, e⟩ := h y List.mem_cons_self
    obtain ⟨l, e2, h2⟩ := ys_of (ys := ys) fun z hz => h z (List.mem_cons_of_mem _ hz)
    exact ⟨c :: l, by rw [e, e2]; rfl, fun d hd => (List.mem_cons.mp hd).elim (fun q => q ▸ hc) (h2 d)⟩
theorem joinL_ones (l : List Nat) : TL.joinL [] (l.map fun c => [c]) = l := by
  induction l with
  | nil => rfl
  | cons c l ih =>
    cases l with
    | nil => rfl
    | cons d l =>
      show [c] ++ ([] ++ TL.joinL [] ((d :: l).map fun c => [c])) = c :: d :: l
      rw [ih]; rfl
theorem s_join1 {l : List Nat} (hl : l.length ≤ 1000000) (h : P (txt l) S) : Sat (fJoin (txt []) [.lst (l.map fun c => txt [c])] S) P := by
  have e : strs? (l.map fun c => txt [c]) = some ((l.map fun c => [c]).map SX.S) := by
    rw [List.map_map]
    have := strs_map (l.map fun c => SX.S [c])
    rw [List.map_map] at this
    exact this
  unfold fJoin
  simp only [vw, e, Option.bind_some, SX.join_S, joinL_ones]
  rw [if_pos]
  · exact h
  · have z : ((l.map fun c => [c]).map SX.S).map (·.length) = l.map fun _ => 1 := by
      rw [List.map_map, List.map_map]; rfl
    rw [z]
    have z2 : (SX.S []).length = 0 := rfl
    rw [z2, Nat.mul_zero, Nat.add_zero]
    have z3 : (l.map fun _ => 1).sum = l.length := by
      clear h hl e z z2
      induction l with
      | nil => rfl
      | cons a l ih => rw [List.map_cons, List.sum_cons, ih, List.length_cons]; omega
    rw [z3]; exact hl
theorem atI_mem {α : Type} {xs : List α} {i : Int} (h0 : 0 ≤ i) (h1 : i < xs.length) : ∃ x, atI xs i = some x ∧ x ∈ xs := by
  have hn : i.toNat < xs.length := by omega
  refine ⟨xs[i.toNat], ?_, List.getElem_mem hn⟩
  unfold atI ixN
  rw [if_pos h0, if_pos h1]
  show xs[i.toNat]? = _
  exact List.getElem?_eq_getElem hn
end
/-! ### slices from, to -/
section
variable {S : Sto} {P : D → Sto → Prop} {i : Int} {a : List Nat} {xs : List D}
theorem cut_toI {α : Type} {xs : List α} (h : 0 ≤ i) : cutL xs none (some i) = xs.take i.toNat := by
  have e : (i.toNat : Int) = i := Int.toNat_of_nonneg h
  rw [← e, cut_to, Int.toNat_natCast]
theorem cut_fromI {α : Type} {xs : List α} (h : 0 ≤ i) : cutL xs (some i) none = xs.drop i.toNat := by
  have e : (i.toNat : Int) = i := Int.toNat_of_nonneg h
  rw [← e, cut_from, Int.toNat_natCast]
theorem s_to_s (h0 : 0 ≤ i) (hl : a.length ≤ 1000000) (h : P (txt (a.take i.toNat)) S) : Sat (fSl none (some i) (txt a) S) P := s_sl_s hl (by rw [cut_toI h0]; exact h)
theorem s_from_s (h0 : 0 ≤ i) (hl : a.length ≤ 1000000) (h : P (txt (a.drop i.toNat)) S) : Sat (fSl (some i) none (txt a) S) P := s_sl_s hl (by rw [cut_fromI h0]; exact h)
theorem s_to_t (h0 : 0 ≤ i) (h : P (.tup (xs.take i.toNat)) S) : Sat (fSl none (some i) (.tup xs) S) P := s_sl_t (by rw [cut_toI h0]; exact h)
theorem s_from_t (h0 : 0 ≤ i) (h : P (.tup (xs.drop i.toNat)) S) : Sat (fSl (some i) none (.tup xs) S) P := s_sl_t (by rw [cut_fromI h0]; exact h)
theorem s_to_l (h0 : 0 ≤ i) (h : P (.lst (xs.take i.toNat)) S) : Sat (fSl none (some i) (.lst xs) S) P := s_sl_l (by rw [cut_toI h0]; exact h)
theorem s_from_l (h0 : 0 ≤ i) (h : P (.lst (xs.drop i.toNat)) S) : Sat (fSl (some i) none (.lst xs) S) P := s_sl_l (by rw [cut_fromI h0]; exact h)
theorem s_to_c (h0 : 0 ≤ i) (h : P (.lst (xs.take i.toNat)) S) : Sat (fSl none (some i) (.scr xs) S) P := s_sl_c (by rw [cut_toI h0]; exact h)
theorem turn_nx {next : En → Sto → Prop} {Q : Fl → Sto → Prop} {ds : En} (h : next ds S) : Turn next Q (.nx ds) S := h
theorem turn_rt {next : En → Sto → Prop} {Q : Fl → Sto → Prop} {d : D} (h : Q (.rt d) S) : Turn next Q (.rt d) S := h
theorem ret_rt {d : D} (h : P d S) : Ret P (.rt d) S := h
theorem ret_nx {ds : En} (h : P .non S) : Ret P (.nx ds) S := h
theorem len1 {n : Nat} {Q : Prop} {xs : List D} (e : xs.length = n) (h : Q) : xs.length = n ∧ Q := ⟨e, h⟩
end
end Pv

namespace Pv
open PySem PySem.Spec PyProof.Rows L2
theorem Fit.blk {X : Cx} {j : Nat} {s : Shared} {H : Hp} {scope : Scope} {cenv : Env} {fp : List Addr} (ft : Fit X j) : Fit (X.blk s H scope cenv fp) j := ⟨ft.room, ft.grd⟩
end Pv
/-! the defs of the row, as functions on data: printed by gen.py -/
namespace Lw
open PySem PySem.Spec PyProof.Rows L2 Pv
def top (i : Nat) : Stmt := PySem.Challenge.pw_onestrokeatatime_k03_whole_delays.main.body.getD i (.Pass ⟨0, 0, 0, 0⟩)
abbrev HasT (P : Program) (w : World) (K : PySem.W.Frag) (mg : Str → Option Value) (base : Heap) (k : Nat) (i : Nat) (x : Str) (ps : List Str) (m : DM) : Prop := Has P w K mg base k x (defArgs (top i)) (defBody (top i)) (defScope (top i)) ps m

structure Fx (K : PySem.W.Frag) (mg : Str → Option Value) : Prop where
  b_abs : mg "abs" = none
  b_all : mg "all" = none
  b_bool : mg "bool" = none
  b_int : mg "int" = none
  b_isinstance : mg "isinstance" = none
  b_len : mg "len" = none
  b_list : mg "list" = none
  b_max : mg "max" = none
  b_min : mg "min" = none
  b_range : mg "range" = none
  b_repr : mg "repr" = none
  b_str : mg "str" = none
  b_sum : mg "sum" = none
  b_tuple : mg "tuple" = none
  g_MOST_ROW : ∃ t : Tok, mg "MOST_ROW" = some (.int 2000 t)
  g_SIGNS : ∃ t : Tok, mg "SIGNS" = some (.str "abcdefghijklmnopqrstuvwxyz" t)
  f__law_cells : ∃ f fd, FunD K "_law_cells" "_law_cells" (defArgs (top 30)) (defBody (top 30)) (defScope (top 30)) [] [] f fd ∧ mg "_law_cells" = some (.ref f)
  f__law_pot : ∃ f fd, FunD K "_law_pot" "_law_pot" (defArgs (top 27)) (defBody (top 27)) (defScope (top 27)) [] [] f fd ∧ mg "_law_pot" = some (.ref f)
  f__law_take : ∃ f fd, FunD K "_law_take" "_law_take" (defArgs (top 28)) (defBody (top 28)) (defScope (top 28)) [] [] f fd ∧ mg "_law_take" = some (.ref f)
  f__law_of : ∃ f fd, FunD K "_law_of" "_law_of" (defArgs (top 29)) (defBody (top 29)) (defScope (top 29)) [] [] f fd ∧ mg "_law_of" = some (.ref f)
  f__law_struck : ∃ f fd, FunD K "_law_struck" "_law_struck" (defArgs (top 35)) (defBody (top 35)) (defScope (top 35)) [] [] f fd ∧ mg "_law_struck" = some (.ref f)
  f_are_signs : ∃ f fd, FunD K "are_signs" "are_signs" (defArgs (top 9)) (defBody (top 9)) (defScope (top 9)) [] [] f fd ∧ mg "are_signs" = some (.ref f)
  f_is_signs : ∃ f fd, FunD K "is_signs" "is_signs" (defArgs (top 10)) (defBody (top 10)) (defScope (top 10)) [] [] f fd ∧ mg "is_signs" = some (.ref f)
  f_is_row_of : ∃ f fd, FunD K "is_row_of" "is_row_of" (defArgs (top 11)) (defBody (top 11)) (defScope (top 11)) [] [] f fd ∧ mg "is_row_of" = some (.ref f)
  f_check_texts : ∃ f fd, FunD K "check_texts" "check_texts" (defArgs (top 20)) (defBody (top 20)) (defScope (top 20)) [] [] f fd ∧ mg "check_texts" = some (.ref f)
  f_is_tuple_of : ∃ f fd, FunD K "is_tuple_of" "is_tuple_of" (defArgs (top 8)) (defBody (top 8)) (defScope (top 8)) [] [] f fd ∧ mg "is_tuple_of" = some (.ref f)
  f_is_parted_of : ∃ f fd, FunD K "is_parted_of" "is_parted_of" (defArgs (top 17)) (defBody (top 17)) (defScope (top 17)) [] [] f fd ∧ mg "is_parted_of" = some (.ref f)
  f_is_delay_of : ∃ f fd, FunD K "is_delay_of" "is_delay_of" (defArgs (top 18)) (defBody (top 18)) (defScope (top 18)) [] [] f fd ∧ mg "is_delay_of" = some (.ref f)
  f_check_delay : ∃ f fd, FunD K "check_delay" "check_delay" (defArgs (top 21)) (defBody (top 21)) (defScope (top 21)) [] [] f fd ∧ mg "check_delay" = some (.ref f)
  f_common_many : ∃ f fd, FunD K "common_many" "common_many" (defArgs (top 13)) (defBody (top 13)) (defScope (top 13)) [] [] f fd ∧ mg "common_many" = some (.ref f)
  f_delay_by : ∃ f fd, FunD K "delay_by" "delay_by" (defArgs (top 15)) (defBody (top 15)) (defScope (top 15)) [] [] f fd ∧ mg "delay_by" = some (.ref f)
  f_then_by : ∃ f fd, FunD K "then_by" "then_by" (defArgs (top 16)) (defBody (top 16)) (defScope (top 16)) [] [] f fd ∧ mg "then_by" = some (.ref f)
  f_delay_then : ∃ f fd, FunD K "delay_then" "delay_then" (defArgs (top 23)) (defBody (top 23)) (defScope (top 23)) [] [] f fd ∧ mg "delay_then" = some (.ref f)
  f__law_row : ∃ f fd, FunD K "_law_row" "_law_row" (defArgs (top 33)) (defBody (top 33)) (defScope (top 33)) [] [] f fd ∧ mg "_law_row" = some (.ref f)
  f_is_delay : ∃ f fd, FunD K "is_delay" "is_delay" (defArgs (top 19)) (defBody (top 19)) (defScope (top 19)) [] [] f fd ∧ mg "is_delay" = some (.ref f)
  f_is_parted : ∃ f fd, FunD K "is_parted" "is_parted" (defArgs (top 25)) (defBody (top 25)) (defScope (top 25)) [] [] f fd ∧ mg "is_parted" = some (.ref f)
  f_delay_of : ∃ f fd, FunD K "delay_of" "delay_of" (defArgs (top 22)) (defBody (top 22)) (defScope (top 22)) [] [] f fd ∧ mg "delay_of" = some (.ref f)
  f__law_is_int : ∃ f fd, FunD K "_law_is_int" "_law_is_int" (defArgs (top 31)) (defBody (top 31)) (defScope (top 31)) [] [] f fd ∧ mg "_law_is_int" = some (.ref f)
  f__law_bent : ∃ f fd, FunD K "_law_bent" "_law_bent" (defArgs (top 34)) (defBody (top 34)) (defScope (top 34)) [] [] f fd ∧ mg "_law_bent" = some (.ref f)
  f_delay_swapped : ∃ f fd, FunD K "delay_swapped" "delay_swapped" (defArgs (top 24)) (defBody (top 24)) (defScope (top 24)) [] [] f fd ∧ mg "delay_swapped" = some (.ref f)
  f__law_signs : ∃ f fd, FunD K "_law_signs" "_law_signs" (defArgs (top 32)) (defBody (top 32)) (defScope (top 32)) [] [] f fd ∧ mg "_law_signs" = some (.ref f)
  f__law_is_delay : ∃ f fd, FunD K "_law_is_delay" "_law_is_delay" (defArgs (top 36)) (defBody (top 36)) (defScope (top 36)) [] [] f fd ∧ mg "_law_is_delay" = some (.ref f)
  f__law_right : ∃ f fd, FunD K "_law_right" "_law_right" (defArgs (top 37)) (defBody (top 37)) (defScope (top 37)) [] [] f fd ∧ mg "_law_right" = some (.ref f)
  f_law : ∃ f fd, FunD K "law" "law" (defArgs (top 38)) (defBody (top 38)) (defScope (top 38)) [] [] f fd ∧ mg "law" = some (.ref f)
section
variable {P : Program} {w : World} {K : PySem.W.Frag} {mg : Str → Option Value} {base : Heap}
def m__law_cells : SM :=
  mRet (mLRng1 (mCall fMax (mCons (mK (.int 1)) (mCons (mCall fMin (mCons (mV 1) (mCons (mCall fLen (mCons (mV 0) mNil)) mNil))) mNil))))
def d__law_cells : DM := mFnT 2 m__law_cells
theorem sc__law_cells : FnScope ["script", "limit"] ["script", "limit"] (defScope (top 30)) := ⟨rfl, rfl, rfl, by decide +kernel, rfl, by decide +kernel, by decide +kernel⟩
theorem ok__law_cells (T : Fx K mg) : HasT P w K mg base 1 30 "_law_cells" ["script", "limit"] d__law_cells := by
  obtain ⟨f, fd, F, hm⟩ := T.f__law_cells
  refine ⟨f, fd, F, hm, runsT (N := ["script", "limit"]) (m := m__law_cells) F sc__law_cells fun cdv A outer s H hr hg => ?_⟩
  have ft : Fit (cxOf CX0 P w K mg base ["script", "limit"] "_law_cells" (defScope (top 30)) f cdv A outer s H E0).nox 0 := ⟨hr, hg⟩
  have hN : (cxOf CX0 P w K mg base ["script", "limit"] "_law_cells" (defScope (top 30)) f cdv A outer s H E0).nox.N.Nodup := (sc__law_cells).nd
  exact (ssm_one (sm_ret (em_lrng1 rfl rfl T.b_list rfl T.b_range (x_blt (b_max T.b_max) (am_cons x_int (am_cons (x_blt (b_min T.b_min) (am_cons (x_v 1) (am_cons (x_blt (b_len T.b_len) (am_cons (x_v 0) am_nil)) am_nil))) am_nil))))))
def m__law_pot : SM :=
  mSeq (mSet 2 (mIf (mBool (mBin fLt (mV 1) (mCall fLen (mCons (mV 0) mNil)))) (mBin fIx (mV 0) (mV 1)) (mBin fAdd (mBin fAdd (mBin fMod (mCall fInt (mCons (mCall fSum (mCons (mSl (mV 0) (mNoPart) (mPart (mK (.int 1)))) mNil)) mNil)) (mK (.int 1000003))) (mBin fMul (mK (.int 5904)) (mV 1))) (mK (.int 15518)))))
  (mSeq (mSet 3 (mBin fMul (mBin fMod (mCall fInt (mCons (mCall fAbs (mCons (mV 2) mNil)) mNil)) (mBin fPow (mBin fPow (mK (.int 10)) (mK (.int 60))) (mK (.int 5)))) (mCall fInt (mCons (mBin fGe (mCall fAbs (mCons (mV 2) mNil)) (mBin fPow (mK (.int 10)) (mK (.int 18)))) mNil))))
  (mSeq (mSet 4 (mBin fMod (mCall fInt (mCons (mV 2) mNil)) (mK (.int 2305843009213693951))))
  (mRet (mCell (mCons (mV 3) (mCons (mBin fMod (mCall fInt (mCons (mBin fAdd (mBin fAdd (mBin fMul (mV 4) (mK (.int 117319))) (mBin fMul (mBin fMul (mK (.int 18417)) (mV 1)) (mV 1))) (mK (.int 5304))) mNil)) (mK (.int 2305843009213693921))) (mCons (mK (.int 0)) mNil)))))))
def d__law_pot : DM := mFnK 5 m__law_pot
theorem sc__law_pot : FnScope ["script", "place", "cell", "own", "small"] ["script", "place"] (defScope (top 27)) := ⟨rfl, rfl, rfl, by decide +kernel, rfl, by decide +kernel, by decide +kernel⟩
theorem ok__law_pot (T : Fx K mg) : HasT P w K mg base 1 27 "_law_pot" ["script", "place"] d__law_pot := by
  obtain ⟨f, fd, F, hm⟩ := T.f__law_pot
  refine ⟨f, fd, F, hm, runsK (N := ["script", "place", "cell", "own", "small"]) (m := m__law_pot) F sc__law_pot fun cdv A outer s H hr hg => ?_⟩
  have ft : Fit (cxOf CX0 P w K mg base ["script", "place", "cell", "own", "small"] "_law_pot" (defScope (top 27)) f cdv A outer s H E0).nox 0 := ⟨hr, hg⟩
  have hN : (cxOf CX0 P w K mg base ["script", "place", "cell", "own", "small"] "_law_pot" (defScope (top 27)) f cdv A outer s H E0).nox.N.Nodup := (sc__law_pot).nd
  exact (ssm_cons (sm_set (i := 2) hN rfl (Or.inl rfl) (em_ifExp (t_cmp (c_lt) (x_v 1) (x_blt (b_len T.b_len) (am_cons (x_v 0) am_nil)) (by rfl)) (em_ix (x_v 0) (x_v 1) (by intro _ _; rfl)) (x_add (x_add (x_mod (x_blt (b_int T.b_int) (am_cons (x_blt (b_sum T.b_sum) (am_cons (em_sl (x_v 0) om_none (om_some x_int)) am_nil)) am_nil)) x_int) (x_mul x_int (x_v 1))) x_int)))
    (ssm_cons (sm_set (i := 3) hN rfl (Or.inl rfl) (x_mul (x_mod (x_blt (b_int T.b_int) (am_cons (x_blt (b_abs T.b_abs) (am_cons (x_v 2) am_nil)) am_nil)) (x_pow (x_pow x_int x_int) x_int)) (x_blt (b_int T.b_int) (am_cons (x_cmp (c_ge) (x_blt (b_abs T.b_abs) (am_cons (x_v 2) am_nil)) (x_pow x_int x_int) (by rfl)) am_nil))))
    (ssm_cons (sm_set (i := 4) hN rfl (Or.inl rfl) (x_mod (x_blt (b_int T.b_int) (am_cons (x_v 2) am_nil)) x_int))
    (ssm_one (sm_ret (em_cell (am_cons (x_v 3) (am_cons (x_mod (x_blt (b_int T.b_int) (am_cons (x_add (x_add (x_mul (x_v 4) x_int) (x_mul (x_mul x_int (x_v 1)) (x_v 1))) x_int) am_nil)) x_int) (am_cons x_int am_nil)))))))))
def m__law_take : SM :=
  mSeq (mIfS (mBool (mBin fGt (mBin fIx (mV 0) (mK (.int 0))) (mK (.int 0)))) (mSeq (mSet 2 (mBin fMod (mCall fInt (mCons (mBin fIx (mV 0) (mK (.int 0))) mNil)) (mV 1)))
  (mSeq (mAsg (mBin fDiv (mBin fIx (mV 0) (mK (.int 0))) (mV 1)) (mSub (mV 0) (mK (.int 0))))
  (mRet (mV 2)))) (mNext))
  (mSeq (mAsg (mBin fAdd (mBin fIx (mV 0) (mK (.int 2))) (mK (.int 1))) (mSub (mV 0) (mK (.int 2))))
  (mSeq (mSet 3 (mBin fIx (mLst (mCons (mK (.int 2147483647)) (mCons (mK (.int 2147483629)) (mCons (mK (.int 2147483587)) (mCons (mK (.int 2147483579)) mNil))))) (mBin fMod (mCall fInt (mCons (mBin fIx (mV 0) (mK (.int 2))) mNil)) (mK (.int 4)))))
  (mSeq (mSet 4 (mBin fMod (mCall fInt (mCons (mBin fPow (mCall fInt (mCons (mBin fAdd (mBin fAdd (mBin fIx (mV 0) (mK (.int 1))) (mBin fMul (mBin fMul (mK (.int 183069)) (mBin fIx (mV 0) (mK (.int 2)))) (mBin fIx (mV 0) (mK (.int 2))))) (mK (.int 6004))) mNil)) (mK (.int 3))) mNil)) (mV 3)))
  (mRet (mBin fMod (mCall fInt (mCons (mBin fDiv (mBin fMul (mV 4) (mBin fAdd (mBin fMod (mCall fInt (mCons (mV 4) mNil)) (mK (.int 10007))) (mBin fMul (mK (.int 5206)) (mBin fIx (mV 0) (mK (.int 2)))))) (mK (.int 307))) mNil)) (mV 1))))))
def d__law_take : DM := mFnT 5 m__law_take
theorem sc__law_take : FnScope ["pot", "upto", "digit", "prime", "blend"] ["pot", "upto"] (defScope (top 28)) := ⟨rfl, rfl, rfl, by decide +kernel, rfl, by decide +kernel, by decide +kernel⟩
theorem ok__law_take (T : Fx K mg) : HasT P w K mg base 1 28 "_law_take" ["pot", "upto"] d__law_take := by
  obtain ⟨f, fd, F, hm⟩ := T.f__law_take
  refine ⟨f, fd, F, hm, runsT (N := ["pot", "upto", "digit", "prime", "blend"]) (m := m__law_take) F sc__law_take fun cdv A outer s H hr hg => ?_⟩
  have ft : Fit (cxOf CX0 P w K mg base ["pot", "upto", "digit", "prime", "blend"] "_law_take" (defScope (top 28)) f cdv A outer s H E0).nox 0 := ⟨hr, hg⟩
  have hN : (cxOf CX0 P w K mg base ["pot", "upto", "digit", "prime", "blend"] "_law_take" (defScope (top 28)) f cdv A outer s H E0).nox.N.Nodup := (sc__law_take).nd
  exact (ssm_cons (sm_if (t_cmp (c_gt) (em_ix (x_v 0) x_int (by intro _ _; rfl)) x_int (by rfl)) (ssm_cons (sm_set (i := 2) hN rfl (Or.inl rfl) (x_mod (x_blt (b_int T.b_int) (am_cons (em_ix (x_v 0) x_int (by intro _ _; rfl)) am_nil)) (x_v 1)))
    (ssm_cons (sm_asg (x_div (em_ix (x_v 0) x_int (by intro _ _; rfl)) (x_v 1)) (gm_sub (x_v 0) x_int))
    (ssm_one (sm_ret (x_v 2))))) ssm_nil)
    (ssm_cons (sm_asg (x_add (em_ix (x_v 0) x_int (by intro _ _; rfl)) x_int) (gm_sub (x_v 0) x_int))
    (ssm_cons (sm_set (i := 3) hN rfl (Or.inl rfl) (em_ix (em_lst (am_cons x_int (am_cons x_int (am_cons x_int (am_cons x_int am_nil))))) (x_mod (x_blt (b_int T.b_int) (am_cons (em_ix (x_v 0) x_int (by intro _ _; rfl)) am_nil)) x_int) (by intro _ _; rfl)))
    (ssm_cons (sm_set (i := 4) hN rfl (Or.inl rfl) (x_mod (x_blt (b_int T.b_int) (am_cons (x_pow (x_blt (b_int T.b_int) (am_cons (x_add (x_add (em_ix (x_v 0) x_int (by intro _ _; rfl)) (x_mul (x_mul x_int (em_ix (x_v 0) x_int (by intro _ _; rfl))) (em_ix (x_v 0) x_int (by intro _ _; rfl)))) x_int) am_nil)) x_int) am_nil)) (x_v 3)))
    (ssm_one (sm_ret (x_mod (x_blt (b_int T.b_int) (am_cons (x_div (x_mul (x_v 4) (x_add (x_mod (x_blt (b_int T.b_int) (am_cons (x_v 4) am_nil)) x_int) (x_mul x_int (em_ix (x_v 0) x_int (by intro _ _; rfl))))) x_int) am_nil)) (x_v 1))))))))
def m__law_of : SM :=
  mRet (mBin fIx (mV 1) (mApp 2 (mCons (mV 0) (mCons (mCall fLen (mCons (mV 1) mNil)) mNil)) d__law_take))
def d__law_of : DM := mFnT 2 m__law_of
theorem sc__law_of : FnScope ["pot", "some"] ["pot", "some"] (defScope (top 29)) := ⟨rfl, rfl, rfl, by decide +kernel, rfl, by decide +kernel, by decide +kernel⟩
theorem ok__law_of (T : Fx K mg) (h__law_take : HasT P w K mg base 1 28 "_law_take" ["pot", "upto"] d__law_take) : HasT P w K mg base 2 29 "_law_of" ["pot", "some"] d__law_of := by
  obtain ⟨f, fd, F, hm⟩ := T.f__law_of
  refine ⟨f, fd, F, hm, runsT (N := ["pot", "some"]) (m := m__law_of) F sc__law_of fun cdv A outer s H hr hg => ?_⟩
  have ft : Fit (cxOf CX0 P w K mg base ["pot", "some"] "_law_of" (defScope (top 29)) f cdv A outer s H E0).nox 1 := ⟨hr, hg⟩
  have hN : (cxOf CX0 P w K mg base ["pot", "some"] "_law_of" (defScope (top 29)) f cdv A outer s H E0).nox.N.Nodup := (sc__law_of).nd
  exact (ssm_one (sm_ret (em_ix (x_v 1) (em_call (x := "_law_take") (params := defArgs (top 28)) (body := defBody (top 28)) (scope := defScope (top 28)) (ps := ["pot", "upto"]) h__law_take ft (by first | decide | omega) (by rfl) (fun _ _ _ _ _ _ us hl => match us, hl with | [_, _], _ => rfl) (am_cons (x_v 0) (am_cons (x_blt (b_len T.b_len) (am_cons (x_v 1) am_nil)) am_nil))) (by intro _ _; rfl))))
def m__law_struck : SM :=
  mSeq (mFor (mRng1 (mCons (mCall fMin (mCons (mCall fLen (mCons (mV 0) mNil)) (mCons (mCall fLen (mCons (mV 1) mNil)) mNil))) mNil)) (mName 2) (mIfS (mBool (mBin fEq (mSl (mV 0) (mNoPart) (mPart (mK (.int 1)))) (mSl (mV 1) (mNoPart) (mPart (mK (.int 1)))))) (mPar 0 1 (mCons (mSl (mV 0) (mPart (mK (.int 1))) (mNoPart)) (mCons (mSl (mV 1) (mPart (mK (.int 1))) (mNoPart)) mNil))) (mNext)))
  (mRet (mTup (mCons (mV 0) (mCons (mV 1) mNil))))
def d__law_struck : DM := mFnT 3 m__law_struck
theorem sc__law_struck : FnScope ["one", "other", "lap"] ["one", "other"] (defScope (top 35)) := ⟨rfl, rfl, rfl, by decide +kernel, rfl, by decide +kernel, by decide +kernel⟩
theorem ok__law_struck (T : Fx K mg) : HasT P w K mg base 1 35 "_law_struck" ["one", "other"] d__law_struck := by
  obtain ⟨f, fd, F, hm⟩ := T.f__law_struck
  refine ⟨f, fd, F, hm, runsT (N := ["one", "other", "lap"]) (m := m__law_struck) F sc__law_struck fun cdv A outer s H hr hg => ?_⟩
  have ft : Fit (cxOf CX0 P w K mg base ["one", "other", "lap"] "_law_struck" (defScope (top 35)) f cdv A outer s H E0).nox 0 := ⟨hr, hg⟩
  have hN : (cxOf CX0 P w K mg base ["one", "other", "lap"] "_law_struck" (defScope (top 35)) f cdv A outer s H E0).nox.N.Nodup := (sc__law_struck).nd
  exact (ssm_cons (sm_for PassesOwn.never rfl (im_rng1 rfl T.b_range (am_cons (x_blt (b_min T.b_min) (am_cons (x_blt (b_len T.b_len) (am_cons (x_v 0) am_nil)) (am_cons (x_blt (b_len T.b_len) (am_cons (x_v 1) am_nil)) am_nil))) am_nil)) (gm_name hN rfl (Or.inl rfl)) (ssm_one (sm_if (t_cmp (c_eq ft) (em_sl (x_v 0) om_none (om_some x_int)) (em_sl (x_v 1) om_none (om_some x_int)) (by rfl)) (ssm_one (sm_par (i := 0) (j := 1) rfl hN rfl rfl (by decide) rfl rfl (am_cons (em_sl (x_v 0) (om_some x_int) om_none) (am_cons (em_sl (x_v 1) (om_some x_int) om_none) am_nil)) (by rfl))) ssm_nil)))
    (ssm_one (sm_ret (em_tup (am_cons (x_v 0) (am_cons (x_v 1) am_nil))))))
def m_are_signs : SM :=
  mRet (mAndV (mCall fIsi (mCons (mV 0) (mCons (mK (.ty "str")) mNil))) (mCall fAll (mCons (mComp (mIter (mV 0)) (bName 1) (mYes) (mBin fIn (mV 1) (mK (txt [97, 98, 99, 100, 101, 102, 103, 104, 105, 106, 107, 108, 109, 110, 111, 112, 113, 114, 115, 116, 117, 118, 119, 120, 121, 122]))) [1]) mNil)))
def d_are_signs : DM := mFnT 2 m_are_signs
theorem sc_are_signs : FnScope ["value", "sign"] ["value"] (defScope (top 9)) := ⟨rfl, rfl, rfl, by decide +kernel, rfl, by decide +kernel, by decide +kernel⟩
theorem ok_are_signs (T : Fx K mg) : HasT P w K mg base 1 9 "are_signs" ["value"] d_are_signs := by
  obtain ⟨f, fd, F, hm⟩ := T.f_are_signs
  refine ⟨f, fd, F, hm, runsT (N := ["value", "sign"]) (m := m_are_signs) F sc_are_signs fun cdv A outer s H hr hg => ?_⟩
  have ft : Fit (cxOf CX0 P w K mg base ["value", "sign"] "are_signs" (defScope (top 9)) f cdv A outer s H E0).nox 0 := ⟨hr, hg⟩
  have hN : (cxOf CX0 P w K mg base ["value", "sign"] "are_signs" (defScope (top 9)) f cdv A outer s H E0).nox.N.Nodup := (sc_are_signs).nd
  exact (ssm_one (sm_ret (em_and (x_blt (b_isinstance T.b_isinstance) (am_cons (x_v 0) (am_cons (x_ty T.b_str) am_nil))) (em_one (x_blt (b_all T.b_all) (am_cons (em_comp rfl hN (im_any (x_v 0)) ⟨blkOk_by (own := [("sign", 1)]) (by first | decide +kernel | rfl), (fun _ _ _ _ _ => gw_name (by decide) hN rfl (Or.inl rfl)), (fun _ _ _ _ _ => tsm_nil), (fun _ _ _ _ _ => (x_cmp (c_in ft.blk) (x_v 1) (x_gSL (l := [97, 98, 99, 100, 101, 102, 103, 104, 105, 106, 107, 108, 109, 110, 111, 112, 113, 114, 115, 116, 117, 118, 119, 120, 121, 122]) (T.g_SIGNS).choose_spec) (by rfl)))⟩) am_nil))))))
def m_is_signs : SM :=
  mRet (mAndV (mCall fIsi (mCons (mV 0) (mCons (mK (.ty "str")) mNil))) (mAndV (mChain fLe fLe (mV 1) (mCall fLen (mCons (mV 0) mNil)) (mV 2)) (mApp 1 (mCons (mV 0) mNil) d_are_signs)))
def d_is_signs : DM := mFnT 3 m_is_signs
theorem sc_is_signs : FnScope ["value", "low", "high"] ["value", "low", "high"] (defScope (top 10)) := ⟨rfl, rfl, rfl, by decide +kernel, rfl, by decide +kernel, by decide +kernel⟩
theorem ok_is_signs (T : Fx K mg) (h_are_signs : HasT P w K mg base 1 9 "are_signs" ["value"] d_are_signs) : HasT P w K mg base 2 10 "is_signs" ["value", "low", "high"] d_is_signs := by
  obtain ⟨f, fd, F, hm⟩ := T.f_is_signs
  refine ⟨f, fd, F, hm, runsT (N := ["value", "low", "high"]) (m := m_is_signs) F sc_is_signs fun cdv A outer s H hr hg => ?_⟩
  have ft : Fit (cxOf CX0 P w K mg base ["value", "low", "high"] "is_signs" (defScope (top 10)) f cdv A outer s H E0).nox 1 := ⟨hr, hg⟩
  have hN : (cxOf CX0 P w K mg base ["value", "low", "high"] "is_signs" (defScope (top 10)) f cdv A outer s H E0).nox.N.Nodup := (sc_is_signs).nd
  exact (ssm_one (sm_ret (em_and (x_blt (b_isinstance T.b_isinstance) (am_cons (x_v 0) (am_cons (x_ty T.b_str) am_nil))) (em_and (x_chain (c_le) (c_le) (x_v 1) (x_blt (b_len T.b_len) (am_cons (x_v 0) am_nil)) (x_v 2) (by rfl)) (em_one (em_call (x := "are_signs") (params := defArgs (top 9)) (body := defBody (top 9)) (scope := defScope (top 9)) (ps := ["value"]) h_are_signs ft (by first | decide | omega) (by rfl) (fun _ _ _ _ _ _ us hl => match us, hl with | [_], _ => rfl) (am_cons (x_v 0) am_nil)))))))
def m_is_row_of : SM :=
  mRet (mApp 3 (mCons (mV 0) (mCons (mK (.int 0)) (mCons (mK (.int 2000)) mNil))) d_is_signs)
def d_is_row_of : DM := mFnT 1 m_is_row_of
theorem sc_is_row_of : FnScope ["value"] ["value"] (defScope (top 11)) := ⟨rfl, rfl, rfl, by decide +kernel, rfl, by decide +kernel, by decide +kernel⟩
theorem ok_is_row_of (T : Fx K mg) (h_is_signs : HasT P w K mg base 2 10 "is_signs" ["value", "low", "high"] d_is_signs) : HasT P w K mg base 3 11 "is_row_of" ["value"] d_is_row_of := by
  obtain ⟨f, fd, F, hm⟩ := T.f_is_row_of
  refine ⟨f, fd, F, hm, runsT (N := ["value"]) (m := m_is_row_of) F sc_is_row_of fun cdv A outer s H hr hg => ?_⟩
  have ft : Fit (cxOf CX0 P w K mg base ["value"] "is_row_of" (defScope (top 11)) f cdv A outer s H E0).nox 2 := ⟨hr, hg⟩
  have hN : (cxOf CX0 P w K mg base ["value"] "is_row_of" (defScope (top 11)) f cdv A outer s H E0).nox.N.Nodup := (sc_is_row_of).nd
  exact (ssm_one (sm_ret (em_call (x := "is_signs") (params := defArgs (top 10)) (body := defBody (top 10)) (scope := defScope (top 10)) (ps := ["value", "low", "high"]) h_is_signs ft (by first | decide | omega) (by rfl) (fun _ _ _ _ _ _ us hl => match us, hl with | [_, _, _], _ => rfl) (am_cons (x_v 0) (am_cons x_int (am_cons (x_gI (T.g_MOST_ROW).choose_spec) am_nil))))))
def m_check_texts : SM :=
  mFor (mIter (mTup (mCons (mV 0) (mCons (mV 1) mNil)))) (mName 2) (mIfS (mNot (mBool (mApp 1 (mCons (mV 2) mNil) d_is_row_of))) (mNever) (mNext))
def d_check_texts : DM := mFnT 3 m_check_texts
theorem sc_check_texts : FnScope ["one", "other", "text"] ["one", "other"] (defScope (top 20)) := ⟨rfl, rfl, rfl, by decide +kernel, rfl, by decide +kernel, by decide +kernel⟩
theorem ok_check_texts (T : Fx K mg) (h_is_row_of : HasT P w K mg base 3 11 "is_row_of" ["value"] d_is_row_of) : HasT P w K mg base 4 20 "check_texts" ["one", "other"] d_check_texts := by
  obtain ⟨f, fd, F, hm⟩ := T.f_check_texts
  refine ⟨f, fd, F, hm, runsT (N := ["one", "other", "text"]) (m := m_check_texts) F sc_check_texts fun cdv A outer s H hr hg => ?_⟩
  have ft : Fit (cxOf CX0 P w K mg base ["one", "other", "text"] "check_texts" (defScope (top 20)) f cdv A outer s H E0).nox 3 := ⟨hr, hg⟩
  have hN : (cxOf CX0 P w K mg base ["one", "other", "text"] "check_texts" (defScope (top 20)) f cdv A outer s H E0).nox.N.Nodup := (sc_check_texts).nd
  exact (ssm_one (sm_for PassesOwn.never rfl (im_any (em_tup (am_cons (x_v 0) (am_cons (x_v 1) am_nil)))) (gm_name hN rfl (Or.inl rfl)) (ssm_one (sm_if (tm_not (tm_val (em_call (x := "is_row_of") (params := defArgs (top 11)) (body := defBody (top 11)) (scope := defScope (top 11)) (ps := ["value"]) h_is_row_of ft (by first | decide | omega) (by rfl) (fun _ _ _ _ _ _ us hl => match us, hl with | [_], _ => rfl) (am_cons (x_v 2) am_nil)))) (ssm_one sm_never) ssm_nil))))
def m_is_tuple_of : SM :=
  mRet (mAndV (mCall fIsi (mCons (mV 0) (mCons (mK (.ty "tuple")) mNil))) (mBin fEq (mCall fLen (mCons (mV 0) mNil)) (mV 1)))
def d_is_tuple_of : DM := mFnT 2 m_is_tuple_of
theorem sc_is_tuple_of : FnScope ["value", "many"] ["value", "many"] (defScope (top 8)) := ⟨rfl, rfl, rfl, by decide +kernel, rfl, by decide +kernel, by decide +kernel⟩
theorem ok_is_tuple_of (T : Fx K mg) : HasT P w K mg base 1 8 "is_tuple_of" ["value", "many"] d_is_tuple_of := by
  obtain ⟨f, fd, F, hm⟩ := T.f_is_tuple_of
  refine ⟨f, fd, F, hm, runsT (N := ["value", "many"]) (m := m_is_tuple_of) F sc_is_tuple_of fun cdv A outer s H hr hg => ?_⟩
  have ft : Fit (cxOf CX0 P w K mg base ["value", "many"] "is_tuple_of" (defScope (top 8)) f cdv A outer s H E0).nox 0 := ⟨hr, hg⟩
  have hN : (cxOf CX0 P w K mg base ["value", "many"] "is_tuple_of" (defScope (top 8)) f cdv A outer s H E0).nox.N.Nodup := (sc_is_tuple_of).nd
  exact (ssm_one (sm_ret (em_and (x_blt (b_isinstance T.b_isinstance) (am_cons (x_v 0) (am_cons (x_ty T.b_tuple) am_nil))) (em_one (x_cmp (c_eq ft) (x_blt (b_len T.b_len) (am_cons (x_v 0) am_nil)) (x_v 1) (by rfl))))))
def m_is_parted_of : SM :=
  mRet (mAndV (mBin fNe (mBin fIx (mV 0) (mK (.int 0))) (mK (txt []))) (mBin fNe (mBin fIx (mV 0) (mK (.int 1))) (mK (txt []))))
def d_is_parted_of : DM := mFnT 1 m_is_parted_of
theorem sc_is_parted_of : FnScope ["delay"] ["delay"] (defScope (top 17)) := ⟨rfl, rfl, rfl, by decide +kernel, rfl, by decide +kernel, by decide +kernel⟩
theorem ok_is_parted_of (T : Fx K mg) : HasT P w K mg base 1 17 "is_parted_of" ["delay"] d_is_parted_of := by
  obtain ⟨f, fd, F, hm⟩ := T.f_is_parted_of
  refine ⟨f, fd, F, hm, runsT (N := ["delay"]) (m := m_is_parted_of) F sc_is_parted_of fun cdv A outer s H hr hg => ?_⟩
  have ft : Fit (cxOf CX0 P w K mg base ["delay"] "is_parted_of" (defScope (top 17)) f cdv A outer s H E0).nox 0 := ⟨hr, hg⟩
  have hN : (cxOf CX0 P w K mg base ["delay"] "is_parted_of" (defScope (top 17)) f cdv A outer s H E0).nox.N.Nodup := (sc_is_parted_of).nd
  exact (ssm_one (sm_ret (em_and (x_cmp (c_ne ft) (em_ix (x_v 0) x_int (by intro _ _; rfl)) (x_strL (l := [])) (by rfl)) (em_one (x_cmp (c_ne ft) (em_ix (x_v 0) x_int (by intro _ _; rfl)) (x_strL (l := [])) (by rfl))))))
def m_is_delay_of : SM :=
  mSeq (mIfS (mOr (mNot (mBool (mApp 2 (mCons (mV 0) (mCons (mK (.int 2)) mNil)) d_is_tuple_of))) (mOr (mNot (mBool (mApp 1 (mCons (mBin fIx (mV 0) (mK (.int 0))) mNil) d_is_row_of))) (mNot (mBool (mApp 1 (mCons (mBin fIx (mV 0) (mK (.int 1))) mNil) d_is_row_of))))) (mRet (mK (.bl false))) (mNext))
  (mRet (mOrV (mNotV (mApp 1 (mCons (mV 0) mNil) d_is_parted_of)) (mBin fNe (mBin fIx (mBin fIx (mV 0) (mK (.int 0))) (mK (.int 0))) (mBin fIx (mBin fIx (mV 0) (mK (.int 1))) (mK (.int 0))))))
def d_is_delay_of : DM := mFnT 1 m_is_delay_of
theorem sc_is_delay_of : FnScope ["value"] ["value"] (defScope (top 18)) := ⟨rfl, rfl, rfl, by decide +kernel, rfl, by decide +kernel, by decide +kernel⟩
theorem ok_is_delay_of (T : Fx K mg) (h_is_tuple_of : HasT P w K mg base 1 8 "is_tuple_of" ["value", "many"] d_is_tuple_of) (h_is_row_of : HasT P w K mg base 3 11 "is_row_of" ["value"] d_is_row_of) (h_is_parted_of : HasT P w K mg base 1 17 "is_parted_of" ["delay"] d_is_parted_of) : HasT P w K mg base 4 18 "is_delay_of" ["value"] d_is_delay_of := by
  obtain ⟨f, fd, F, hm⟩ := T.f_is_delay_of
  refine ⟨f, fd, F, hm, runsT (N := ["value"]) (m := m_is_delay_of) F sc_is_delay_of fun cdv A outer s H hr hg => ?_⟩
  have ft : Fit (cxOf CX0 P w K mg base ["value"] "is_delay_of" (defScope (top 18)) f cdv A outer s H E0).nox 3 := ⟨hr, hg⟩
  have hN : (cxOf CX0 P w K mg base ["value"] "is_delay_of" (defScope (top 18)) f cdv A outer s H E0).nox.N.Nodup := (sc_is_delay_of).nd
  exact (ssm_cons (sm_if (tm_w (wm_or (tm_not (tm_val (em_call (x := "is_tuple_of") (params := defArgs (top 8)) (body := defBody (top 8)) (scope := defScope (top 8)) (ps := ["value", "many"]) h_is_tuple_of ft (by first | decide | omega) (by rfl) (fun _ _ _ _ _ _ us hl => match us, hl with | [_, _], _ => rfl) (am_cons (x_v 0) (am_cons x_int am_nil))))) (wm_or (tm_not (tm_val (em_call (x := "is_row_of") (params := defArgs (top 11)) (body := defBody (top 11)) (scope := defScope (top 11)) (ps := ["value"]) h_is_row_of ft (by first | decide | omega) (by rfl) (fun _ _ _ _ _ _ us hl => match us, hl with | [_], _ => rfl) (am_cons (em_ix (x_v 0) x_int (by intro _ _; rfl)) am_nil)))) (wm_or1 (tm_not (tm_val (em_call (x := "is_row_of") (params := defArgs (top 11)) (body := defBody (top 11)) (scope := defScope (top 11)) (ps := ["value"]) h_is_row_of ft (by first | decide | omega) (by rfl) (fun _ _ _ _ _ _ us hl => match us, hl with | [_], _ => rfl) (am_cons (em_ix (x_v 0) x_int (by intro _ _; rfl)) am_nil)))))))) (ssm_one (sm_ret x_bool)) ssm_nil)
    (ssm_one (sm_ret (em_or (em_not (em_call (x := "is_parted_of") (params := defArgs (top 17)) (body := defBody (top 17)) (scope := defScope (top 17)) (ps := ["delay"]) h_is_parted_of ft (by first | decide | omega) (by rfl) (fun _ _ _ _ _ _ us hl => match us, hl with | [_], _ => rfl) (am_cons (x_v 0) am_nil))) (em_one (x_cmp (c_ne ft) (em_ix (em_ix (x_v 0) x_int (by intro _ _; rfl)) x_int (by intro _ _; rfl)) (em_ix (em_ix (x_v 0) x_int (by intro _ _; rfl)) x_int (by intro _ _; rfl)) (by rfl)))))))
def m_check_delay : SM :=
  mIfS (mNot (mBool (mApp 1 (mCons (mV 0) mNil) d_is_delay_of))) (mNever) (mNext)
def d_check_delay : DM := mFnT 1 m_check_delay
theorem sc_check_delay : FnScope ["delay"] ["delay"] (defScope (top 21)) := ⟨rfl, rfl, rfl, by decide +kernel, rfl, by decide +kernel, by decide +kernel⟩
theorem ok_check_delay (T : Fx K mg) (h_is_delay_of : HasT P w K mg base 4 18 "is_delay_of" ["value"] d_is_delay_of) : HasT P w K mg base 5 21 "check_delay" ["delay"] d_check_delay := by
  obtain ⟨f, fd, F, hm⟩ := T.f_check_delay
  refine ⟨f, fd, F, hm, runsT (N := ["delay"]) (m := m_check_delay) F sc_check_delay fun cdv A outer s H hr hg => ?_⟩
  have ft : Fit (cxOf CX0 P w K mg base ["delay"] "check_delay" (defScope (top 21)) f cdv A outer s H E0).nox 4 := ⟨hr, hg⟩
  have hN : (cxOf CX0 P w K mg base ["delay"] "check_delay" (defScope (top 21)) f cdv A outer s H E0).nox.N.Nodup := (sc_check_delay).nd
  exact (ssm_one (sm_if (tm_not (tm_val (em_call (x := "is_delay_of") (params := defArgs (top 18)) (body := defBody (top 18)) (scope := defScope (top 18)) (ps := ["value"]) h_is_delay_of ft (by first | decide | omega) (by rfl) (fun _ _ _ _ _ _ us hl => match us, hl with | [_], _ => rfl) (am_cons (x_v 0) am_nil)))) (ssm_one sm_never) ssm_nil))
def m_common_many : SM :=
  mSeq (mSet 2 (mCall fMin (mCons (mCall fLen (mCons (mV 0) mNil)) (mCons (mCall fLen (mCons (mV 1) mNil)) mNil))))
  (mSeq (mSet 3 (mComp (mRng1 (mCons (mV 2) mNil)) (bName 4) (mBool (mBin fNe (mBin fIx (mV 0) (mV 4)) (mBin fIx (mV 1) (mV 4)))) (mV 4) [4]))
  (mRet (mIf (mBool (mBin fNe (mV 3) (mLst (mNil)))) (mBin fIx (mV 3) (mK (.int 0))) (mV 2))))
def d_common_many : DM := mFnT 5 m_common_many
theorem sc_common_many : FnScope ["one", "other", "most", "apart", "place"] ["one", "other"] (defScope (top 13)) := ⟨rfl, rfl, rfl, by decide +kernel, rfl, by decide +kernel, by decide +kernel⟩
theorem ok_common_many (T : Fx K mg) : HasT P w K mg base 1 13 "common_many" ["one", "other"] d_common_many := by
  obtain ⟨f, fd, F, hm⟩ := T.f_common_many
  refine ⟨f, fd, F, hm, runsT (N := ["one", "other", "most", "apart", "place"]) (m := m_common_many) F sc_common_many fun cdv A outer s H hr hg => ?_⟩
  have ft : Fit (cxOf CX0 P w K mg base ["one", "other", "most", "apart", "place"] "common_many" (defScope (top 13)) f cdv A outer s H E0).nox 0 := ⟨hr, hg⟩
  have hN : (cxOf CX0 P w K mg base ["one", "other", "most", "apart", "place"] "common_many" (defScope (top 13)) f cdv A outer s H E0).nox.N.Nodup := (sc_common_many).nd
  exact (ssm_cons (sm_set (i := 2) hN rfl (Or.inl rfl) (x_blt (b_min T.b_min) (am_cons (x_blt (b_len T.b_len) (am_cons (x_v 0) am_nil)) (am_cons (x_blt (b_len T.b_len) (am_cons (x_v 1) am_nil)) am_nil))))
    (ssm_cons (sm_comp (i := 3) rfl hN rfl rfl (im_rng1 rfl T.b_range (am_cons (x_v 2) am_nil)) ⟨blkOk_by (own := [("place", 4)]) (by first | decide +kernel | rfl), (fun _ _ _ _ _ => gw_name (by decide) hN rfl (Or.inl rfl)), (fun _ _ _ _ _ => tsm_one (t_cmp (c_ne ft.blk) (em_ix (x_v 0) (x_v 4) (by intro _ _; rfl)) (em_ix (x_v 1) (x_v 4) (by intro _ _; rfl)) (by rfl))), (fun _ _ _ _ _ => (x_v 4))⟩ (sw_true rfl rfl rfl (by decide +kernel)))
    (ssm_one (sm_ret (em_ifExp (t_cmp (c_ne ft) (x_v 3) (em_lst am_nil) (by rfl)) (em_ix (x_v 3) x_int (by intro _ _; rfl)) (x_v 2))))))
def m_delay_by : SM :=
  mSeq (mSet 2 (mApp 2 (mCons (mV 0) (mCons (mV 1) mNil)) d_common_many))
  (mRet (mTup (mCons (mSl (mV 0) (mPart (mV 2)) (mNoPart)) (mCons (mSl (mV 1) (mPart (mV 2)) (mNoPart)) mNil))))
def d_delay_by : DM := mFnT 3 m_delay_by
theorem sc_delay_by : FnScope ["one", "other", "many"] ["one", "other"] (defScope (top 15)) := ⟨rfl, rfl, rfl, by decide +kernel, rfl, by decide +kernel, by decide +kernel⟩
theorem ok_delay_by (T : Fx K mg) (h_common_many : HasT P w K mg base 1 13 "common_many" ["one", "other"] d_common_many) : HasT P w K mg base 2 15 "delay_by" ["one", "other"] d_delay_by := by
  obtain ⟨f, fd, F, hm⟩ := T.f_delay_by
  refine ⟨f, fd, F, hm, runsT (N := ["one", "other", "many"]) (m := m_delay_by) F sc_delay_by fun cdv A outer s H hr hg => ?_⟩
  have ft : Fit (cxOf CX0 P w K mg base ["one", "other", "many"] "delay_by" (defScope (top 15)) f cdv A outer s H E0).nox 1 := ⟨hr, hg⟩
  have hN : (cxOf CX0 P w K mg base ["one", "other", "many"] "delay_by" (defScope (top 15)) f cdv A outer s H E0).nox.N.Nodup := (sc_delay_by).nd
  exact (ssm_cons (sm_set (i := 2) hN rfl (Or.inl rfl) (em_call (x := "common_many") (params := defArgs (top 13)) (body := defBody (top 13)) (scope := defScope (top 13)) (ps := ["one", "other"]) h_common_many ft (by first | decide | omega) (by rfl) (fun _ _ _ _ _ _ us hl => match us, hl with | [_, _], _ => rfl) (am_cons (x_v 0) (am_cons (x_v 1) am_nil))))
    (ssm_one (sm_ret (em_tup (am_cons (em_sl (x_v 0) (om_some (x_v 2)) om_none) (am_cons (em_sl (x_v 1) (om_some (x_v 2)) om_none) am_nil))))))
def m_then_by : SM :=
  mRet (mApp 2 (mCons (mBin fAdd (mBin fIx (mV 0) (mK (.int 0))) (mV 1)) (mCons (mBin fAdd (mBin fIx (mV 0) (mK (.int 1))) (mV 2)) mNil)) d_delay_by)
def d_then_by : DM := mFnT 3 m_then_by
theorem sc_then_by : FnScope ["delay", "one", "other"] ["delay", "one", "other"] (defScope (top 16)) := ⟨rfl, rfl, rfl, by decide +kernel, rfl, by decide +kernel, by decide +kernel⟩
theorem ok_then_by (T : Fx K mg) (h_delay_by : HasT P w K mg base 2 15 "delay_by" ["one", "other"] d_delay_by) : HasT P w K mg base 3 16 "then_by" ["delay", "one", "other"] d_then_by := by
  obtain ⟨f, fd, F, hm⟩ := T.f_then_by
  refine ⟨f, fd, F, hm, runsT (N := ["delay", "one", "other"]) (m := m_then_by) F sc_then_by fun cdv A outer s H hr hg => ?_⟩
  have ft : Fit (cxOf CX0 P w K mg base ["delay", "one", "other"] "then_by" (defScope (top 16)) f cdv A outer s H E0).nox 2 := ⟨hr, hg⟩
  have hN : (cxOf CX0 P w K mg base ["delay", "one", "other"] "then_by" (defScope (top 16)) f cdv A outer s H E0).nox.N.Nodup := (sc_then_by).nd
  exact (ssm_one (sm_ret (em_call (x := "delay_by") (params := defArgs (top 15)) (body := defBody (top 15)) (scope := defScope (top 15)) (ps := ["one", "other"]) h_delay_by ft (by first | decide | omega) (by rfl) (fun _ _ _ _ _ _ us hl => match us, hl with | [_, _], _ => rfl) (am_cons (x_add (em_ix (x_v 0) x_int (by intro _ _; rfl)) (x_v 1)) (am_cons (x_add (em_ix (x_v 0) x_int (by intro _ _; rfl)) (x_v 2)) am_nil)))))
def m_delay_then : SM :=
  mSeq (mExpr (mApp 2 (mCons (mV 1) (mCons (mV 2) mNil)) d_check_texts))
  (mSeq (mExpr (mApp 1 (mCons (mV 0) mNil) d_check_delay))
  (mSeq (mSet 3 (mApp 3 (mCons (mV 0) (mCons (mV 1) (mCons (mV 2) mNil))) d_then_by))
  (mSeq (mIfS (mNot (mBool (mApp 1 (mCons (mV 3) mNil) d_is_delay_of))) (mNever) (mNext))
  (mRet (mV 3)))))
def d_delay_then : DM := mFnT 4 m_delay_then
theorem sc_delay_then : FnScope ["delay", "one", "other", "found"] ["delay", "one", "other"] (defScope (top 23)) := ⟨rfl, rfl, rfl, by decide +kernel, rfl, by decide +kernel, by decide +kernel⟩
theorem ok_delay_then (T : Fx K mg) (h_check_texts : HasT P w K mg base 4 20 "check_texts" ["one", "other"] d_check_texts) (h_check_delay : HasT P w K mg base 5 21 "check_delay" ["delay"] d_check_delay) (h_then_by : HasT P w K mg base 3 16 "then_by" ["delay", "one", "other"] d_then_by) (h_is_delay_of : HasT P w K mg base 4 18 "is_delay_of" ["value"] d_is_delay_of) : HasT P w K mg base 6 23 "delay_then" ["delay", "one", "other"] d_delay_then := by
  obtain ⟨f, fd, F, hm⟩ := T.f_delay_then
  refine ⟨f, fd, F, hm, runsT (N := ["delay", "one", "other", "found"]) (m := m_delay_then) F sc_delay_then fun cdv A outer s H hr hg => ?_⟩
  have ft : Fit (cxOf CX0 P w K mg base ["delay", "one", "other", "found"] "delay_then" (defScope (top 23)) f cdv A outer s H E0).nox 5 := ⟨hr, hg⟩
  have hN : (cxOf CX0 P w K mg base ["delay", "one", "other", "found"] "delay_then" (defScope (top 23)) f cdv A outer s H E0).nox.N.Nodup := (sc_delay_then).nd
  exact (ssm_cons (sm_expr (em_call (x := "check_texts") (params := defArgs (top 20)) (body := defBody (top 20)) (scope := defScope (top 20)) (ps := ["one", "other"]) h_check_texts ft (by first | decide | omega) (by rfl) (fun _ _ _ _ _ _ us hl => match us, hl with | [_, _], _ => rfl) (am_cons (x_v 1) (am_cons (x_v 2) am_nil))))
    (ssm_cons (sm_expr (em_call (x := "check_delay") (params := defArgs (top 21)) (body := defBody (top 21)) (scope := defScope (top 21)) (ps := ["delay"]) h_check_delay ft (by first | decide | omega) (by rfl) (fun _ _ _ _ _ _ us hl => match us, hl with | [_], _ => rfl) (am_cons (x_v 0) am_nil)))
    (ssm_cons (sm_set (i := 3) hN rfl (Or.inl rfl) (em_call (x := "then_by") (params := defArgs (top 16)) (body := defBody (top 16)) (scope := defScope (top 16)) (ps := ["delay", "one", "other"]) h_then_by ft (by first | decide | omega) (by rfl) (fun _ _ _ _ _ _ us hl => match us, hl with | [_, _, _], _ => rfl) (am_cons (x_v 0) (am_cons (x_v 1) (am_cons (x_v 2) am_nil)))))
    (ssm_cons (sm_if (tm_not (tm_val (em_call (x := "is_delay_of") (params := defArgs (top 18)) (body := defBody (top 18)) (scope := defScope (top 18)) (ps := ["value"]) h_is_delay_of ft (by first | decide | omega) (by rfl) (fun _ _ _ _ _ _ us hl => match us, hl with | [_], _ => rfl) (am_cons (x_v 3) am_nil)))) (ssm_one sm_never) ssm_nil)
    (ssm_one (sm_ret (x_v 3)))))))
def m__law_row : SM :=
  mRet (mStrM fJoin (mK (txt [])) (mCons (mComp (mRng1 (mCons (mApp 2 (mCons (mV 0) (mCons (mBin fAdd (mV 2) (mK (.int 1))) mNil)) d__law_take) mNil)) (bName 3) (mYes) (mApp 2 (mCons (mV 0) (mCons (mV 1) mNil)) d__law_of) [3]) mNil))
def d__law_row : DM := mFnT 4 m__law_row
theorem sc__law_row : FnScope ["pot", "letters", "most", "lap"] ["pot", "letters", "most"] (defScope (top 33)) := ⟨rfl, rfl, rfl, by decide +kernel, rfl, by decide +kernel, by decide +kernel⟩
theorem ok__law_row (T : Fx K mg) (h__law_of : HasT P w K mg base 2 29 "_law_of" ["pot", "some"] d__law_of) (h__law_take : HasT P w K mg base 1 28 "_law_take" ["pot", "upto"] d__law_take) : HasT P w K mg base 3 33 "_law_row" ["pot", "letters", "most"] d__law_row := by
  obtain ⟨f, fd, F, hm⟩ := T.f__law_row
  refine ⟨f, fd, F, hm, runsT (N := ["pot", "letters", "most", "lap"]) (m := m__law_row) F sc__law_row fun cdv A outer s H hr hg => ?_⟩
  have ft : Fit (cxOf CX0 P w K mg base ["pot", "letters", "most", "lap"] "_law_row" (defScope (top 33)) f cdv A outer s H E0).nox 2 := ⟨hr, hg⟩
  have hN : (cxOf CX0 P w K mg base ["pot", "letters", "most", "lap"] "_law_row" (defScope (top 33)) f cdv A outer s H E0).nox.N.Nodup := (sc__law_row).nd
  exact (ssm_one (sm_ret (em_join (x_strL (l := [])) (am_cons (em_comp rfl hN (im_rng1 rfl T.b_range (am_cons (em_call (x := "_law_take") (params := defArgs (top 28)) (body := defBody (top 28)) (scope := defScope (top 28)) (ps := ["pot", "upto"]) h__law_take ft (by first | decide | omega) (by rfl) (fun _ _ _ _ _ _ us hl => match us, hl with | [_, _], _ => rfl) (am_cons (x_v 0) (am_cons (x_add (x_v 2) x_int) am_nil))) am_nil)) ⟨blkOk_by (own := [("lap", 3)]) (by first | decide +kernel | rfl), (fun _ _ _ _ _ => gw_name (by decide) hN rfl (Or.inl rfl)), (fun _ _ _ _ _ => tsm_nil), (fun _ _ _ _ _ => (em_call (x := "_law_of") (params := defArgs (top 29)) (body := defBody (top 29)) (scope := defScope (top 29)) (ps := ["pot", "some"]) h__law_of ft.blk (by first | decide | omega) (by rfl) (fun _ _ _ _ _ _ us hl => match us, hl with | [_, _], _ => rfl) (am_cons (x_v 0) (am_cons (x_v 1) am_nil))))⟩) am_nil))))
def m_is_delay : SM :=
  mRet (mApp 1 (mCons (mV 0) mNil) d_is_delay_of)
def d_is_delay : DM := mFnT 1 m_is_delay
theorem sc_is_delay : FnScope ["value"] ["value"] (defScope (top 19)) := ⟨rfl, rfl, rfl, by decide +kernel, rfl, by decide +kernel, by decide +kernel⟩
theorem ok_is_delay (T : Fx K mg) (h_is_delay_of : HasT P w K mg base 4 18 "is_delay_of" ["value"] d_is_delay_of) : HasT P w K mg base 5 19 "is_delay" ["value"] d_is_delay := by
  obtain ⟨f, fd, F, hm⟩ := T.f_is_delay
  refine ⟨f, fd, F, hm, runsT (N := ["value"]) (m := m_is_delay) F sc_is_delay fun cdv A outer s H hr hg => ?_⟩
  have ft : Fit (cxOf CX0 P w K mg base ["value"] "is_delay" (defScope (top 19)) f cdv A outer s H E0).nox 4 := ⟨hr, hg⟩
  have hN : (cxOf CX0 P w K mg base ["value"] "is_delay" (defScope (top 19)) f cdv A outer s H E0).nox.N.Nodup := (sc_is_delay).nd
  exact (ssm_one (sm_ret (em_call (x := "is_delay_of") (params := defArgs (top 18)) (body := defBody (top 18)) (scope := defScope (top 18)) (ps := ["value"]) h_is_delay_of ft (by first | decide | omega) (by rfl) (fun _ _ _ _ _ _ us hl => match us, hl with | [_], _ => rfl) (am_cons (x_v 0) am_nil))))
def m_is_parted : SM :=
  mSeq (mExpr (mApp 1 (mCons (mV 0) mNil) d_check_delay))
  (mRet (mApp 1 (mCons (mV 0) mNil) d_is_parted_of))
def d_is_parted : DM := mFnT 1 m_is_parted
theorem sc_is_parted : FnScope ["delay"] ["delay"] (defScope (top 25)) := ⟨rfl, rfl, rfl, by decide +kernel, rfl, by decide +kernel, by decide +kernel⟩
theorem ok_is_parted (T : Fx K mg) (h_check_delay : HasT P w K mg base 5 21 "check_delay" ["delay"] d_check_delay) (h_is_parted_of : HasT P w K mg base 1 17 "is_parted_of" ["delay"] d_is_parted_of) : HasT P w K mg base 6 25 "is_parted" ["delay"] d_is_parted := by
  obtain ⟨f, fd, F, hm⟩ := T.f_is_parted
  refine ⟨f, fd, F, hm, runsT (N := ["delay"]) (m := m_is_parted) F sc_is_parted fun cdv A outer s H hr hg => ?_⟩
  have ft : Fit (cxOf CX0 P w K mg base ["delay"] "is_parted" (defScope (top 25)) f cdv A outer s H E0).nox 5 := ⟨hr, hg⟩
  have hN : (cxOf CX0 P w K mg base ["delay"] "is_parted" (defScope (top 25)) f cdv A outer s H E0).nox.N.Nodup := (sc_is_parted).nd
  exact (ssm_cons (sm_expr (em_call (x := "check_delay") (params := defArgs (top 21)) (body := defBody (top 21)) (scope := defScope (top 21)) (ps := ["delay"]) h_check_delay ft (by first | decide | omega) (by rfl) (fun _ _ _ _ _ _ us hl => match us, hl with | [_], _ => rfl) (am_cons (x_v 0) am_nil)))
    (ssm_one (sm_ret (em_call (x := "is_parted_of") (params := defArgs (top 17)) (body := defBody (top 17)) (scope := defScope (top 17)) (ps := ["delay"]) h_is_parted_of ft (by first | decide | omega) (by rfl) (fun _ _ _ _ _ _ us hl => match us, hl with | [_], _ => rfl) (am_cons (x_v 0) am_nil)))))
def m_delay_of : SM :=
  mSeq (mExpr (mApp 2 (mCons (mV 0) (mCons (mV 1) mNil)) d_check_texts))
  (mRet (mApp 2 (mCons (mV 0) (mCons (mV 1) mNil)) d_delay_by))
def d_delay_of : DM := mFnT 2 m_delay_of
theorem sc_delay_of : FnScope ["one", "other"] ["one", "other"] (defScope (top 22)) := ⟨rfl, rfl, rfl, by decide +kernel, rfl, by decide +kernel, by decide +kernel⟩
theorem ok_delay_of (T : Fx K mg) (h_check_texts : HasT P w K mg base 4 20 "check_texts" ["one", "other"] d_check_texts) (h_delay_by : HasT P w K mg base 2 15 "delay_by" ["one", "other"] d_delay_by) : HasT P w K mg base 5 22 "delay_of" ["one", "other"] d_delay_of := by
  obtain ⟨f, fd, F, hm⟩ := T.f_delay_of
  refine ⟨f, fd, F, hm, runsT (N := ["one", "other"]) (m := m_delay_of) F sc_delay_of fun cdv A outer s H hr hg => ?_⟩
  have ft : Fit (cxOf CX0 P w K mg base ["one", "other"] "delay_of" (defScope (top 22)) f cdv A outer s H E0).nox 4 := ⟨hr, hg⟩
  have hN : (cxOf CX0 P w K mg base ["one", "other"] "delay_of" (defScope (top 22)) f cdv A outer s H E0).nox.N.Nodup := (sc_delay_of).nd
  exact (ssm_cons (sm_expr (em_call (x := "check_texts") (params := defArgs (top 20)) (body := defBody (top 20)) (scope := defScope (top 20)) (ps := ["one", "other"]) h_check_texts ft (by first | decide | omega) (by rfl) (fun _ _ _ _ _ _ us hl => match us, hl with | [_, _], _ => rfl) (am_cons (x_v 0) (am_cons (x_v 1) am_nil))))
    (ssm_one (sm_ret (em_call (x := "delay_by") (params := defArgs (top 15)) (body := defBody (top 15)) (scope := defScope (top 15)) (ps := ["one", "other"]) h_delay_by ft (by first | decide | omega) (by rfl) (fun _ _ _ _ _ _ us hl => match us, hl with | [_, _], _ => rfl) (am_cons (x_v 0) (am_cons (x_v 1) am_nil))))))
def m__law_is_int : SM :=
  mRet (mAndV (mCall fIsi (mCons (mV 0) (mCons (mK (.ty "int")) mNil))) (mNotV (mCall fIsi (mCons (mV 0) (mCons (mK (.ty "bool")) mNil)))))
def d__law_is_int : DM := mFnT 1 m__law_is_int
theorem sc__law_is_int : FnScope ["value"] ["value"] (defScope (top 31)) := ⟨rfl, rfl, rfl, by decide +kernel, rfl, by decide +kernel, by decide +kernel⟩
theorem ok__law_is_int (T : Fx K mg) : HasT P w K mg base 1 31 "_law_is_int" ["value"] d__law_is_int := by
  obtain ⟨f, fd, F, hm⟩ := T.f__law_is_int
  refine ⟨f, fd, F, hm, runsT (N := ["value"]) (m := m__law_is_int) F sc__law_is_int fun cdv A outer s H hr hg => ?_⟩
  have ft : Fit (cxOf CX0 P w K mg base ["value"] "_law_is_int" (defScope (top 31)) f cdv A outer s H E0).nox 0 := ⟨hr, hg⟩
  have hN : (cxOf CX0 P w K mg base ["value"] "_law_is_int" (defScope (top 31)) f cdv A outer s H E0).nox.N.Nodup := (sc__law_is_int).nd
  exact (ssm_one (sm_ret (em_and (x_blt (b_isinstance T.b_isinstance) (am_cons (x_v 0) (am_cons (x_ty T.b_int) am_nil))) (em_one (em_not (x_blt (b_isinstance T.b_isinstance) (am_cons (x_v 0) (am_cons (x_ty T.b_bool) am_nil))))))))
def m__law_bent (d__law_bent : Nat → DM) (n : Nat) : SM :=
  mSeq (mIfS (mAnd (mBool (mCall fIsi (mCons (mV 1) (mCons (mK (.ty "tuple")) mNil)))) (mBool (mBin fNe (mV 1) (mTup (mNil))))) (mSeq (mSet 2 (mApp 2 (mCons (mV 0) (mCons (mCall fLen (mCons (mV 1) mNil)) mNil)) d__law_take))
  (mSeq (mIfS (mBool (mBin fEq (mApp 2 (mCons (mV 0) (mCons (mK (.int 3)) mNil)) d__law_take) (mK (.int 0)))) (mRet (mApp 2 (mCons (mV 0) (mCons (mLst (mCons (mCall fList (mCons (mV 1) mNil)) (mCons (mBin fAdd (mSl (mV 1) (mNoPart) (mPart (mV 2))) (mSl (mV 1) (mPart (mBin fAdd (mV 2) (mK (.int 1)))) (mNoPart))) (mCons (mBin fAdd (mV 1) (mSl (mV 1) (mNoPart) (mPart (mK (.int 1))))) (mCons (mUn fRev (mV 1)) mNil))))) mNil)) d__law_of)) (mNext))
  (mRet (mBin fAdd (mBin fAdd (mSl (mV 1) (mNoPart) (mPart (mV 2))) (mTup (mCons (mApp 2 (mCons (mV 0) (mCons (mBin fIx (mV 1) (mV 2)) mNil)) (d__law_bent n)) mNil))) (mSl (mV 1) (mPart (mBin fAdd (mV 2) (mK (.int 1)))) (mNoPart)))))) (mNext))
  (mSeq (mIfS (mBool (mApp 1 (mCons (mV 1) mNil) d__law_is_int)) (mRet (mApp 2 (mCons (mV 0) (mCons (mLst (mCons (mBin fAdd (mV 1) (mK (.int 1))) (mCons (mBin fSub (mV 1) (mK (.int 1))) (mCons (mK .non) (mCons (mCall fStr (mCons (mV 1) mNil)) (mCons (mBin fEq (mV 1) (mK (.int 1))) mNil)))))) mNil)) d__law_of)) (mNext))
  (mSeq (mIfS (mAnd (mBool (mCall fIsi (mCons (mV 1) (mCons (mK (.ty "str")) mNil)))) (mBool (mBin fNe (mV 1) (mK (txt []))))) (mRet (mApp 2 (mCons (mV 0) (mCons (mLst (mCons (mSl (mV 1) (mNoPart) (mPart (mUn fNeg (mK (.int 1))))) (mCons (mBin fAdd (mV 1) (mK (txt [97]))) (mCons (mUn fRev (mV 1)) (mCons (mStrM0 fUpper (mV 1)) (mCons (mK .non) (mCons (mK (txt [98])) mNil))))))) mNil)) d__law_of)) (mNext))
  (mRet (mApp 2 (mCons (mV 0) (mCons (mLst (mCons (mK .non) (mCons (mK (txt [97])) (mCons (mK (txt [])) (mCons (mK (.int 0)) (mCons (mTup (mNil)) (mCons (mTup (mCons (mK (txt [97])) mNil)) (mCons (mK (.bl true)) (mCons (mUn fNeg (mK (.int 1))) mNil))))))))) mNil)) d__law_of))))
def d__law_bent : Nat → DM := fun n => Nat.rec (fun _ => stuck) (fun _ r => mFnT 3 (m__law_bent (fun _ => r) 0)) n
theorem sc__law_bent : FnScope ["pot", "value", "at"] ["pot", "value"] (defScope (top 34)) := ⟨rfl, rfl, rfl, by decide +kernel, rfl, by decide +kernel, by decide +kernel⟩
theorem ok__law_bent (T : Fx K mg) (h__law_is_int : HasT P w K mg base 1 31 "_law_is_int" ["value"] d__law_is_int) (h__law_of : HasT P w K mg base 2 29 "_law_of" ["pot", "some"] d__law_of) (h__law_take : HasT P w K mg base 1 28 "_law_take" ["pot", "upto"] d__law_take) : ∀ n, HasT P w K mg base (3 + n) 34 "_law_bent" ["pot", "value"] (d__law_bent n) := by
  intro n
  obtain ⟨f, fd, F, hm⟩ := T.f__law_bent
  induction n with
  | zero => exact ⟨f, fd, F, hm, fun A outer s H args us vs Q Z ρ S ds _ _ _ _ _ _ _ _ h => h.elim⟩
  | succ n ih =>
    refine ⟨f, fd, F, hm, runsT (N := ["pot", "value", "at"]) (m := m__law_bent d__law_bent n) F sc__law_bent fun cdv A outer s H hr hg => ?_⟩
    have ft : Fit (cxOf CX0 P w K mg base ["pot", "value", "at"] "_law_bent" (defScope (top 34)) f cdv A outer s H E0).nox (3 + n) := ⟨hr, hg⟩
    have hN : (cxOf CX0 P w K mg base ["pot", "value", "at"] "_law_bent" (defScope (top 34)) f cdv A outer s H E0).nox.N.Nodup := (sc__law_bent).nd
    exact (ssm_cons (sm_if (tm_w (wm_and (tm_val (x_blt (b_isinstance T.b_isinstance) (am_cons (x_v 1) (am_cons (x_ty T.b_tuple) am_nil)))) (wm_and1 (t_cmp (c_ne ft) (x_v 1) (em_tup am_nil) (by rfl))))) (ssm_cons (sm_set (i := 2) hN rfl (Or.inl rfl) (em_call (x := "_law_take") (params := defArgs (top 28)) (body := defBody (top 28)) (scope := defScope (top 28)) (ps := ["pot", "upto"]) h__law_take ft (by first | decide | omega) (by rfl) (fun _ _ _ _ _ _ us hl => match us, hl with | [_, _], _ => rfl) (am_cons (x_v 0) (am_cons (x_blt (b_len T.b_len) (am_cons (x_v 1) am_nil)) am_nil))))
    (ssm_cons (sm_if (t_cmp (c_eq ft) (em_call (x := "_law_take") (params := defArgs (top 28)) (body := defBody (top 28)) (scope := defScope (top 28)) (ps := ["pot", "upto"]) h__law_take ft (by first | decide | omega) (by rfl) (fun _ _ _ _ _ _ us hl => match us, hl with | [_, _], _ => rfl) (am_cons (x_v 0) (am_cons x_int am_nil))) x_int (by rfl)) (ssm_one (sm_ret (em_call (x := "_law_of") (params := defArgs (top 29)) (body := defBody (top 29)) (scope := defScope (top 29)) (ps := ["pot", "some"]) h__law_of ft (by first | decide | omega) (by rfl) (fun _ _ _ _ _ _ us hl => match us, hl with | [_, _], _ => rfl) (am_cons (x_v 0) (am_cons (em_lst (am_cons (x_blt (b_list T.b_list) (am_cons (x_v 1) am_nil)) (am_cons (x_add (em_sl (x_v 1) om_none (om_some (x_v 2))) (em_sl (x_v 1) (om_some (x_add (x_v 2) x_int)) om_none)) (am_cons (x_add (x_v 1) (em_sl (x_v 1) om_none (om_some x_int))) (am_cons (em_rev (x_v 1)) am_nil))))) am_nil))))) ssm_nil)
    (ssm_one (sm_ret (x_add (x_add (em_sl (x_v 1) om_none (om_some (x_v 2))) (em_tup (am_cons (em_call (x := "_law_bent") (params := defArgs (top 34)) (body := defBody (top 34)) (scope := defScope (top 34)) (ps := ["pot", "value"]) ih ft (by first | decide | omega) (by rfl) (fun _ _ _ _ _ _ us hl => match us, hl with | [_, _], _ => rfl) (am_cons (x_v 0) (am_cons (em_ix (x_v 1) (x_v 2) (by intro _ _; rfl)) am_nil))) am_nil))) (em_sl (x_v 1) (om_some (x_add (x_v 2) x_int)) om_none)))))) ssm_nil)
    (ssm_cons (sm_if (tm_val (em_call (x := "_law_is_int") (params := defArgs (top 31)) (body := defBody (top 31)) (scope := defScope (top 31)) (ps := ["value"]) h__law_is_int ft (by first | decide | omega) (by rfl) (fun _ _ _ _ _ _ us hl => match us, hl with | [_], _ => rfl) (am_cons (x_v 1) am_nil))) (ssm_one (sm_ret (em_call (x := "_law_of") (params := defArgs (top 29)) (body := defBody (top 29)) (scope := defScope (top 29)) (ps := ["pot", "some"]) h__law_of ft (by first | decide | omega) (by rfl) (fun _ _ _ _ _ _ us hl => match us, hl with | [_, _], _ => rfl) (am_cons (x_v 0) (am_cons (em_lst (am_cons (x_add (x_v 1) x_int) (am_cons (x_sub (x_v 1) x_int) (am_cons x_none (am_cons (x_blt (b_str T.b_str) (am_cons (x_v 1) am_nil)) (am_cons (x_cmp (c_eq ft) (x_v 1) x_int (by rfl)) am_nil)))))) am_nil))))) ssm_nil)
    (ssm_cons (sm_if (tm_w (wm_and (tm_val (x_blt (b_isinstance T.b_isinstance) (am_cons (x_v 1) (am_cons (x_ty T.b_str) am_nil)))) (wm_and1 (t_cmp (c_ne ft) (x_v 1) (x_strL (l := [])) (by rfl))))) (ssm_one (sm_ret (em_call (x := "_law_of") (params := defArgs (top 29)) (body := defBody (top 29)) (scope := defScope (top 29)) (ps := ["pot", "some"]) h__law_of ft (by first | decide | omega) (by rfl) (fun _ _ _ _ _ _ us hl => match us, hl with | [_, _], _ => rfl) (am_cons (x_v 0) (am_cons (em_lst (am_cons (em_sl (x_v 1) om_none (om_some (x_neg x_int))) (am_cons (x_add (x_v 1) (x_strL (l := [97]))) (am_cons (em_rev (x_v 1)) (am_cons (em_upper (x_v 1)) (am_cons x_none (am_cons (x_strL (l := [98])) am_nil))))))) am_nil))))) ssm_nil)
    (ssm_one (sm_ret (em_call (x := "_law_of") (params := defArgs (top 29)) (body := defBody (top 29)) (scope := defScope (top 29)) (ps := ["pot", "some"]) h__law_of ft (by first | decide | omega) (by rfl) (fun _ _ _ _ _ _ us hl => match us, hl with | [_, _], _ => rfl) (am_cons (x_v 0) (am_cons (em_lst (am_cons x_none (am_cons (x_strL (l := [97])) (am_cons (x_strL (l := [])) (am_cons x_int (am_cons (em_tup am_nil) (am_cons (em_tup (am_cons (x_strL (l := [97])) am_nil)) (am_cons x_bool (am_cons (x_neg x_int) am_nil))))))))) am_nil))))))))
def m_delay_swapped : SM :=
  mSeq (mExpr (mApp 1 (mCons (mV 0) mNil) d_check_delay))
  (mRet (mTup (mCons (mBin fIx (mV 0) (mK (.int 1))) (mCons (mBin fIx (mV 0) (mK (.int 0))) mNil))))
def d_delay_swapped : DM := mFnT 1 m_delay_swapped
theorem sc_delay_swapped : FnScope ["delay"] ["delay"] (defScope (top 24)) := ⟨rfl, rfl, rfl, by decide +kernel, rfl, by decide +kernel, by decide +kernel⟩
theorem ok_delay_swapped (T : Fx K mg) (h_check_delay : HasT P w K mg base 5 21 "check_delay" ["delay"] d_check_delay) : HasT P w K mg base 6 24 "delay_swapped" ["delay"] d_delay_swapped := by
  obtain ⟨f, fd, F, hm⟩ := T.f_delay_swapped
  refine ⟨f, fd, F, hm, runsT (N := ["delay"]) (m := m_delay_swapped) F sc_delay_swapped fun cdv A outer s H hr hg => ?_⟩
  have ft : Fit (cxOf CX0 P w K mg base ["delay"] "delay_swapped" (defScope (top 24)) f cdv A outer s H E0).nox 5 := ⟨hr, hg⟩
  have hN : (cxOf CX0 P w K mg base ["delay"] "delay_swapped" (defScope (top 24)) f cdv A outer s H E0).nox.N.Nodup := (sc_delay_swapped).nd
  exact (ssm_cons (sm_expr (em_call (x := "check_delay") (params := defArgs (top 21)) (body := defBody (top 21)) (scope := defScope (top 21)) (ps := ["delay"]) h_check_delay ft (by first | decide | omega) (by rfl) (fun _ _ _ _ _ _ us hl => match us, hl with | [_], _ => rfl) (am_cons (x_v 0) am_nil)))
    (ssm_one (sm_ret (em_tup (am_cons (em_ix (x_v 0) x_int (by intro _ _; rfl)) (am_cons (em_ix (x_v 0) x_int (by intro _ _; rfl)) am_nil))))))
def m__law_signs : SM :=
  mRet (mAndV (mCall fIsi (mCons (mV 0) (mCons (mK (.ty "str")) mNil))) (mAndV (mChain fLe fLe (mV 1) (mCall fLen (mCons (mV 0) mNil)) (mV 2)) (mCall fAll (mCons (mComp (mIter (mV 0)) (bName 3) (mYes) (mBin fIn (mV 3) (mK (txt [97, 98, 99, 100, 101, 102, 103, 104, 105, 106, 107, 108, 109, 110, 111, 112, 113, 114, 115, 116, 117, 118, 119, 120, 121, 122]))) [3]) mNil))))
def d__law_signs : DM := mFnT 4 m__law_signs
theorem sc__law_signs : FnScope ["value", "low", "high", "sign"] ["value", "low", "high"] (defScope (top 32)) := ⟨rfl, rfl, rfl, by decide +kernel, rfl, by decide +kernel, by decide +kernel⟩
theorem ok__law_signs (T : Fx K mg) : HasT P w K mg base 1 32 "_law_signs" ["value", "low", "high"] d__law_signs := by
  obtain ⟨f, fd, F, hm⟩ := T.f__law_signs
  refine ⟨f, fd, F, hm, runsT (N := ["value", "low", "high", "sign"]) (m := m__law_signs) F sc__law_signs fun cdv A outer s H hr hg => ?_⟩
  have ft : Fit (cxOf CX0 P w K mg base ["value", "low", "high", "sign"] "_law_signs" (defScope (top 32)) f cdv A outer s H E0).nox 0 := ⟨hr, hg⟩
  have hN : (cxOf CX0 P w K mg base ["value", "low", "high", "sign"] "_law_signs" (defScope (top 32)) f cdv A outer s H E0).nox.N.Nodup := (sc__law_signs).nd
  exact (ssm_one (sm_ret (em_and (x_blt (b_isinstance T.b_isinstance) (am_cons (x_v 0) (am_cons (x_ty T.b_str) am_nil))) (em_and (x_chain (c_le) (c_le) (x_v 1) (x_blt (b_len T.b_len) (am_cons (x_v 0) am_nil)) (x_v 2) (by rfl)) (em_one (x_blt (b_all T.b_all) (am_cons (em_comp rfl hN (im_any (x_v 0)) ⟨blkOk_by (own := [("sign", 3)]) (by first | decide +kernel | rfl), (fun _ _ _ _ _ => gw_name (by decide) hN rfl (Or.inl rfl)), (fun _ _ _ _ _ => tsm_nil), (fun _ _ _ _ _ => (x_cmp (c_in ft.blk) (x_v 3) (x_strL (l := [97, 98, 99, 100, 101, 102, 103, 104, 105, 106, 107, 108, 109, 110, 111, 112, 113, 114, 115, 116, 117, 118, 119, 120, 121, 122])) (by rfl)))⟩) am_nil)))))))
def m__law_is_delay : SM :=
  mSeq (mIfS (mOr (mNot (mBool (mCall fIsi (mCons (mV 0) (mCons (mK (.ty "tuple")) mNil))))) (mOr (mBool (mBin fNe (mCall fLen (mCons (mV 0) mNil)) (mK (.int 2)))) (mNot (mBool (mCall fAll (mCons (mComp (mIter (mV 0)) (bName 1) (mYes) (mApp 3 (mCons (mV 1) (mCons (mK (.int 0)) (mCons (mK (.int 2000)) mNil))) d__law_signs) [1]) mNil)))))) (mRet (mK (.bl false))) (mNext))
  (mRet (mOrV (mBin fIn (mK (txt [])) (mV 0)) (mBin fNe (mBin fIx (mBin fIx (mV 0) (mK (.int 0))) (mK (.int 0))) (mBin fIx (mBin fIx (mV 0) (mK (.int 1))) (mK (.int 0))))))
def d__law_is_delay : DM := mFnT 2 m__law_is_delay
theorem sc__law_is_delay : FnScope ["value", "text"] ["value"] (defScope (top 36)) := ⟨rfl, rfl, rfl, by decide +kernel, rfl, by decide +kernel, by decide +kernel⟩
theorem ok__law_is_delay (T : Fx K mg) (h__law_signs : HasT P w K mg base 1 32 "_law_signs" ["value", "low", "high"] d__law_signs) : HasT P w K mg base 2 36 "_law_is_delay" ["value"] d__law_is_delay := by
  obtain ⟨f, fd, F, hm⟩ := T.f__law_is_delay
  refine ⟨f, fd, F, hm, runsT (N := ["value", "text"]) (m := m__law_is_delay) F sc__law_is_delay fun cdv A outer s H hr hg => ?_⟩
  have ft : Fit (cxOf CX0 P w K mg base ["value", "text"] "_law_is_delay" (defScope (top 36)) f cdv A outer s H E0).nox 1 := ⟨hr, hg⟩
  have hN : (cxOf CX0 P w K mg base ["value", "text"] "_law_is_delay" (defScope (top 36)) f cdv A outer s H E0).nox.N.Nodup := (sc__law_is_delay).nd
  exact (ssm_cons (sm_if (tm_w (wm_or (tm_not (tm_val (x_blt (b_isinstance T.b_isinstance) (am_cons (x_v 0) (am_cons (x_ty T.b_tuple) am_nil))))) (wm_or (t_cmp (c_ne ft) (x_blt (b_len T.b_len) (am_cons (x_v 0) am_nil)) x_int (by rfl)) (wm_or1 (tm_not (tm_val (x_blt (b_all T.b_all) (am_cons (em_comp rfl hN (im_any (x_v 0)) ⟨blkOk_by (own := [("text", 1)]) (by first | decide +kernel | rfl), (fun _ _ _ _ _ => gw_name (by decide) hN rfl (Or.inl rfl)), (fun _ _ _ _ _ => tsm_nil), (fun _ _ _ _ _ => (em_call (x := "_law_signs") (params := defArgs (top 32)) (body := defBody (top 32)) (scope := defScope (top 32)) (ps := ["value", "low", "high"]) h__law_signs ft.blk (by first | decide | omega) (by rfl) (fun _ _ _ _ _ _ us hl => match us, hl with | [_, _, _], _ => rfl) (am_cons (x_v 1) (am_cons x_int (am_cons x_int am_nil)))))⟩) am_nil)))))))) (ssm_one (sm_ret x_bool)) ssm_nil)
    (ssm_one (sm_ret (em_or (x_cmp (c_in ft) (x_strL (l := [])) (x_v 0) (by rfl)) (em_one (x_cmp (c_ne ft) (em_ix (em_ix (x_v 0) x_int (by intro _ _; rfl)) x_int (by intro _ _; rfl)) (em_ix (em_ix (x_v 0) x_int (by intro _ _; rfl)) x_int (by intro _ _; rfl)) (by rfl)))))))
def m__law_right_14 : SM := mRet (mCall fAll (mCons (mComp (mIter (mV 9)) (bName 11) (mYes) (mBin fEq (mCall fRepr (mCons (mAppK 0 1 [0] mNil (mCons (mV 11) (mNil)) d_is_delay) mNil)) (mCall fRepr (mCons (mApp 1 (mCons (mV 11) mNil) d__law_is_delay) mNil))) [11]) mNil))
def m__law_right_13 : SM := mSeq (mSet 9 (mBin fAdd (mLst (mCons (mV 3) (mCons (mCall fList (mCons (mV 3) mNil)) (mCons (mSl (mV 3) (mNoPart) (mPart (mK (.int 1)))) (mCons (mBin fAdd (mV 3) (mTup (mCons (mK (txt [])) mNil))) (mCons (mTup (mCons (mV 1) (mCons (mV 1) mNil))) (mCons (mTup (mCons (mBin fAdd (mV 1) (mK (txt [120]))) (mCons (mBin fAdd (mV 1) (mK (txt [121]))) mNil))) (mCons (mTup (mCons (mK (txt [])) (mCons (mBin fMul (mK (txt [120])) (mK (.int 2000))) mNil))) (mCons (mTup (mCons (mK (txt [])) (mCons (mBin fMul (mK (txt [120])) (mK (.int 2001))) mNil))) (mCons (mK .non) (mCons (mK (.int 7)) mNil))))))))))) (mComp (mRng1 (mCons (mK (.int 4)) mNil)) (bName 10) (mYes) (mApp 2 (mCons (mV 0) (mCons (mV 3) mNil)) (d__law_bent 12)) [10]))) m__law_right_14
def m__law_right_12 : SM := mSeq (mIfS (mBool (mBin fNe (mBin fEq (mApp 3 (mCons (mV 8) (mCons (mV 5) (mCons (mV 6) mNil))) d_delay_then) (mV 7)) (mBin fEq (mV 8) (mV 3)))) (mRet (mK (.bl false))) (mNext)) m__law_right_13
def m__law_right_11 : SM := mSeq (mSet 8 (mApp 2 (mCons (mApp 3 (mCons (mV 0) (mCons (mK (txt [120, 121])) (mCons (mK (.int 5)) mNil))) d__law_row) (mCons (mApp 3 (mCons (mV 0) (mCons (mK (txt [120, 121])) (mCons (mK (.int 5)) mNil))) d__law_row) mNil)) d__law_struck)) m__law_right_12
def m__law_right_10 : SM := mSeq (mIfS (mAnd (mBool (mV 4)) (mOr (mBool (mBin fEq (mBin fIx (mV 7) (mK (.int 0))) (mK (txt [])))) (mBool (mBin fEq (mBin fIx (mV 7) (mK (.int 1))) (mK (txt [])))))) (mRet (mK (.bl false))) (mNext)) m__law_right_11
def m__law_right_9 : SM := mSeq (mIfS (mOr (mBool (mBin fNe (mCall fRepr (mCons (mV 7) mNil)) (mCall fRepr (mCons (mApp 2 (mCons (mBin fAdd (mBin fIx (mV 3) (mK (.int 0))) (mV 5)) (mCons (mBin fAdd (mBin fIx (mV 3) (mK (.int 1))) (mV 6)) mNil)) d__law_struck) mNil)))) (mBool (mBin fNe (mV 7) (mApp 2 (mCons (mBin fAdd (mV 1) (mV 5)) (mCons (mBin fAdd (mV 2) (mV 6)) mNil)) d_delay_of)))) (mRet (mK (.bl false))) (mNext)) m__law_right_10
def m__law_right_8 : SM := mSeq (mSet 7 (mAppK 0 3 [0, 1, 2] mNil (mCons (mV 3) (mCons (mV 5) (mCons (mV 6) (mNil)))) d_delay_then)) m__law_right_9
def m__law_right_7 : SM := mSeq (mAsg (mApp 2 (mCons (mV 0) (mCons (mLst (mCons (mTup (mCons (mV 5) (mCons (mV 6) mNil))) (mCons (mTup (mCons (mV 5) (mCons (mBin fAdd (mBin fIx (mV 3) (mK (.int 0))) (mV 5)) mNil))) (mCons (mTup (mCons (mBin fAdd (mBin fIx (mV 3) (mK (.int 1))) (mV 5)) (mCons (mBin fAdd (mBin fIx (mV 3) (mK (.int 0))) (mV 5)) mNil))) (mCons (mTup (mCons (mV 5) (mCons (mV 5) mNil))) mNil))))) mNil)) d__law_of) (mTupG [5, 6])) m__law_right_8
def m__law_right_6 : SM := mSeq (mPar 5 6 (mCons (mApp 3 (mCons (mV 0) (mCons (mK (txt [120, 121])) (mCons (mK (.int 4)) mNil))) d__law_row) (mCons (mApp 3 (mCons (mV 0) (mCons (mK (txt [120, 121])) (mCons (mK (.int 4)) mNil))) d__law_row) mNil))) m__law_right_7
def m__law_right_5 : SM := mSeq (mIfS (mBool (mBin fNe (mCall fRepr (mCons (mAppK 0 1 [0] mNil (mCons (mV 3) (mNil)) d_is_parted) mNil)) (mCall fRepr (mCons (mV 4) mNil)))) (mRet (mK (.bl false))) (mNext)) m__law_right_6
def m__law_right_4 : SM := mSeq (mSet 4 (mAndV (mBin fNe (mBin fIx (mV 3) (mK (.int 0))) (mK (txt []))) (mBin fNe (mBin fIx (mV 3) (mK (.int 1))) (mK (txt []))))) m__law_right_5
def m__law_right_3 : SM := mSeq (mIfS (mOr (mBool (mBin fNe (mCall fRepr (mCons (mAppK 0 2 [0, 1] mNil (mCons (mV 1) (mCons (mV 2) (mNil))) d_delay_of) mNil)) (mCall fRepr (mCons (mV 3) mNil)))) (mOr (mBool (mBin fNe (mCall fRepr (mCons (mAppK 0 1 [0] mNil (mCons (mV 3) (mNil)) d_delay_swapped) mNil)) (mCall fRepr (mCons (mUn fRev (mV 3)) mNil)))) (mBool (mBin fIsNot (mApp 1 (mCons (mV 3) mNil) d_is_delay) (mK (.bl true)))))) (mRet (mK (.bl false))) (mNext)) m__law_right_4
def m__law_right_2 : SM := mSeq (mSet 3 (mApp 2 (mCons (mV 1) (mCons (mV 2) mNil)) d__law_struck)) m__law_right_3
def m__law_right_1 : SM := mSeq (mSet 2 (mApp 2 (mCons (mV 0) (mCons (mLst (mCons (mV 2) (mCons (mBin fAdd (mV 1) (mV 2)) (mCons (mBin fAdd (mSl (mV 1) (mNoPart) (mPart (mK (.int 2)))) (mV 2)) (mCons (mV 1) mNil))))) mNil)) d__law_of)) m__law_right_2
def m__law_right : SM :=
  mSeq (mPar 1 2 (mCons (mApp 3 (mCons (mV 0) (mCons (mK (txt [120, 121])) (mCons (mK (.int 6)) mNil))) d__law_row) (mCons (mApp 3 (mCons (mV 0) (mCons (mK (txt [120, 121])) (mCons (mK (.int 6)) mNil))) d__law_row) mNil))) m__law_right_1
def d__law_right : DM := mFnT 12 m__law_right
theorem sc__law_right : FnScope ["pot", "one", "other", "delay", "parted", "left", "right", "behind", "third", "values", "lap", "value"] ["pot"] (defScope (top 37)) := ⟨rfl, rfl, rfl, by decide +kernel, rfl, by decide +kernel, by decide +kernel⟩
theorem ok__law_right (T : Fx K mg) (h__law_of : HasT P w K mg base 2 29 "_law_of" ["pot", "some"] d__law_of) (h__law_struck : HasT P w K mg base 1 35 "_law_struck" ["one", "other"] d__law_struck) (h_delay_then : HasT P w K mg base 6 23 "delay_then" ["delay", "one", "other"] d_delay_then) (h__law_row : HasT P w K mg base 3 33 "_law_row" ["pot", "letters", "most"] d__law_row) (h_is_delay : HasT P w K mg base 5 19 "is_delay" ["value"] d_is_delay) (h_is_parted : HasT P w K mg base 6 25 "is_parted" ["delay"] d_is_parted) (h_delay_of : HasT P w K mg base 5 22 "delay_of" ["one", "other"] d_delay_of) (h__law_bent : ∀ n, HasT P w K mg base (3 + n) 34 "_law_bent" ["pot", "value"] (d__law_bent n)) (h_delay_swapped : HasT P w K mg base 6 24 "delay_swapped" ["delay"] d_delay_swapped) (h__law_is_delay : HasT P w K mg base 2 36 "_law_is_delay" ["value"] d__law_is_delay) : HasT P w K mg base 16 37 "_law_right" ["pot"] d__law_right := by
  obtain ⟨f, fd, F, hm⟩ := T.f__law_right
  refine ⟨f, fd, F, hm, runsT (N := ["pot", "one", "other", "delay", "parted", "left", "right", "behind", "third", "values", "lap", "value"]) (m := m__law_right) F sc__law_right fun cdv A outer s H hr hg => ?_⟩
  have ft : Fit (cxOf CX0 P w K mg base ["pot", "one", "other", "delay", "parted", "left", "right", "behind", "third", "values", "lap", "value"] "_law_right" (defScope (top 37)) f cdv A outer s H E0).nox 15 := ⟨hr, hg⟩
  have hN : (cxOf CX0 P w K mg base ["pot", "one", "other", "delay", "parted", "left", "right", "behind", "third", "values", "lap", "value"] "_law_right" (defScope (top 37)) f cdv A outer s H E0).nox.N.Nodup := (sc__law_right).nd
  exact (ssm_cons (sm_par (i := 1) (j := 2) rfl hN rfl rfl (by decide) rfl rfl (am_cons (em_call (x := "_law_row") (params := defArgs (top 33)) (body := defBody (top 33)) (scope := defScope (top 33)) (ps := ["pot", "letters", "most"]) h__law_row ft (by first | decide | omega) (by rfl) (fun _ _ _ _ _ _ us hl => match us, hl with | [_, _, _], _ => rfl) (am_cons (x_v 0) (am_cons (x_strL (l := [120, 121])) (am_cons x_int am_nil)))) (am_cons (em_call (x := "_law_row") (params := defArgs (top 33)) (body := defBody (top 33)) (scope := defScope (top 33)) (ps := ["pot", "letters", "most"]) h__law_row ft (by first | decide | omega) (by rfl) (fun _ _ _ _ _ _ us hl => match us, hl with | [_, _, _], _ => rfl) (am_cons (x_v 0) (am_cons (x_strL (l := [120, 121])) (am_cons x_int am_nil)))) am_nil)) (by rfl))
    (ssm_cons (sm_set (i := 2) hN rfl (Or.inl rfl) (em_call (x := "_law_of") (params := defArgs (top 29)) (body := defBody (top 29)) (scope := defScope (top 29)) (ps := ["pot", "some"]) h__law_of ft (by first | decide | omega) (by rfl) (fun _ _ _ _ _ _ us hl => match us, hl with | [_, _], _ => rfl) (am_cons (x_v 0) (am_cons (em_lst (am_cons (x_v 2) (am_cons (x_add (x_v 1) (x_v 2)) (am_cons (x_add (em_sl (x_v 1) om_none (om_some x_int)) (x_v 2)) (am_cons (x_v 1) am_nil))))) am_nil))))
    (ssm_cons (sm_set (i := 3) hN rfl (Or.inr rfl) (em_call (x := "_law_struck") (params := defArgs (top 35)) (body := defBody (top 35)) (scope := defScope (top 35)) (ps := ["one", "other"]) h__law_struck ft (by first | decide | omega) (by rfl) (fun _ _ _ _ _ _ us hl => match us, hl with | [_, _], _ => rfl) (am_cons (x_v 1) (am_cons (x_v 2) am_nil))))
    (ssm_cons (sm_if (tm_w (wm_or (t_cmp (c_ne ft) (x_blt (b_repr ft T.b_repr) (am_cons (em_callK0 (x := "delay_of") (params := defArgs (top 22)) (body := defBody (top 22)) (scope := defScope (top 22)) (ps := ["one", "other"]) (ks := ["one", "other"]) (pr := [0, 1]) h_delay_of ft (by first | decide | omega) (by rfl) (fun _ _ _ _ _ _ ws h2 => match ws, h2 with | [_, _], _ => ⟨rfl, rfl⟩) (km_cons (x_v 1) (km_cons (x_v 2) km_nil))) am_nil)) (x_blt (b_repr ft T.b_repr) (am_cons (x_v 3) am_nil)) (by rfl)) (wm_or (t_cmp (c_ne ft) (x_blt (b_repr ft T.b_repr) (am_cons (em_callK0 (x := "delay_swapped") (params := defArgs (top 24)) (body := defBody (top 24)) (scope := defScope (top 24)) (ps := ["delay"]) (ks := ["delay"]) (pr := [0]) h_delay_swapped ft (by first | decide | omega) (by rfl) (fun _ _ _ _ _ _ ws h2 => match ws, h2 with | [_], _ => ⟨rfl, rfl⟩) (km_cons (x_v 3) km_nil)) am_nil)) (x_blt (b_repr ft T.b_repr) (am_cons (em_rev (x_v 3)) am_nil)) (by rfl)) (wm_or1 (t_cmp (c_isNot) (em_call (x := "is_delay") (params := defArgs (top 19)) (body := defBody (top 19)) (scope := defScope (top 19)) (ps := ["value"]) h_is_delay ft (by first | decide | omega) (by rfl) (fun _ _ _ _ _ _ us hl => match us, hl with | [_], _ => rfl) (am_cons (x_v 3) am_nil)) x_bool (by rfl)))))) (ssm_one (sm_ret x_bool)) ssm_nil)
    (ssm_cons (sm_set (i := 4) hN rfl (Or.inl rfl) (em_and (x_cmp (c_ne ft) (em_ix (x_v 3) x_int (by intro _ _; rfl)) (x_strL (l := [])) (by rfl)) (em_one (x_cmp (c_ne ft) (em_ix (x_v 3) x_int (by intro _ _; rfl)) (x_strL (l := [])) (by rfl)))))
    (ssm_cons (sm_if (t_cmp (c_ne ft) (x_blt (b_repr ft T.b_repr) (am_cons (em_callK0 (x := "is_parted") (params := defArgs (top 25)) (body := defBody (top 25)) (scope := defScope (top 25)) (ps := ["delay"]) (ks := ["delay"]) (pr := [0]) h_is_parted ft (by first | decide | omega) (by rfl) (fun _ _ _ _ _ _ ws h2 => match ws, h2 with | [_], _ => ⟨rfl, rfl⟩) (km_cons (x_v 3) km_nil)) am_nil)) (x_blt (b_repr ft T.b_repr) (am_cons (x_v 4) am_nil)) (by rfl)) (ssm_one (sm_ret x_bool)) ssm_nil)
    (ssm_cons (sm_par (i := 5) (j := 6) rfl hN rfl rfl (by decide) rfl rfl (am_cons (em_call (x := "_law_row") (params := defArgs (top 33)) (body := defBody (top 33)) (scope := defScope (top 33)) (ps := ["pot", "letters", "most"]) h__law_row ft (by first | decide | omega) (by rfl) (fun _ _ _ _ _ _ us hl => match us, hl with | [_, _, _], _ => rfl) (am_cons (x_v 0) (am_cons (x_strL (l := [120, 121])) (am_cons x_int am_nil)))) (am_cons (em_call (x := "_law_row") (params := defArgs (top 33)) (body := defBody (top 33)) (scope := defScope (top 33)) (ps := ["pot", "letters", "most"]) h__law_row ft (by first | decide | omega) (by rfl) (fun _ _ _ _ _ _ us hl => match us, hl with | [_, _, _], _ => rfl) (am_cons (x_v 0) (am_cons (x_strL (l := [120, 121])) (am_cons x_int am_nil)))) am_nil)) (by rfl))
    (ssm_cons (sm_asg (em_call (x := "_law_of") (params := defArgs (top 29)) (body := defBody (top 29)) (scope := defScope (top 29)) (ps := ["pot", "some"]) h__law_of ft (by first | decide | omega) (by rfl) (fun _ _ _ _ _ _ us hl => match us, hl with | [_, _], _ => rfl) (am_cons (x_v 0) (am_cons (em_lst (am_cons (em_tup (am_cons (x_v 5) (am_cons (x_v 6) am_nil))) (am_cons (em_tup (am_cons (x_v 5) (am_cons (x_add (em_ix (x_v 3) x_int (by intro _ _; rfl)) (x_v 5)) am_nil))) (am_cons (em_tup (am_cons (x_add (em_ix (x_v 3) x_int (by intro _ _; rfl)) (x_v 5)) (am_cons (x_add (em_ix (x_v 3) x_int (by intro _ _; rfl)) (x_v 5)) am_nil))) (am_cons (em_tup (am_cons (x_v 5) (am_cons (x_v 5) am_nil))) am_nil))))) am_nil))) (gm_tup rfl (gsm_cons hN rfl (Or.inl rfl) (gsm_cons hN rfl (Or.inl rfl) gsm_nil))))
    (ssm_cons (sm_set (i := 7) hN rfl (Or.inl rfl) (em_callK0 (x := "delay_then") (params := defArgs (top 23)) (body := defBody (top 23)) (scope := defScope (top 23)) (ps := ["delay", "one", "other"]) (ks := ["delay", "one", "other"]) (pr := [0, 1, 2]) h_delay_then ft (by first | decide | omega) (by rfl) (fun _ _ _ _ _ _ ws h2 => match ws, h2 with | [_, _, _], _ => ⟨rfl, rfl⟩) (km_cons (x_v 3) (km_cons (x_v 5) (km_cons (x_v 6) km_nil)))))
    (ssm_cons (sm_if (tm_w (wm_or (t_cmp (c_ne ft) (x_blt (b_repr ft T.b_repr) (am_cons (x_v 7) am_nil)) (x_blt (b_repr ft T.b_repr) (am_cons (em_call (x := "_law_struck") (params := defArgs (top 35)) (body := defBody (top 35)) (scope := defScope (top 35)) (ps := ["one", "other"]) h__law_struck ft (by first | decide | omega) (by rfl) (fun _ _ _ _ _ _ us hl => match us, hl with | [_, _], _ => rfl) (am_cons (x_add (em_ix (x_v 3) x_int (by intro _ _; rfl)) (x_v 5)) (am_cons (x_add (em_ix (x_v 3) x_int (by intro _ _; rfl)) (x_v 6)) am_nil))) am_nil)) (by rfl)) (wm_or1 (t_cmp (c_ne ft) (x_v 7) (em_call (x := "delay_of") (params := defArgs (top 22)) (body := defBody (top 22)) (scope := defScope (top 22)) (ps := ["one", "other"]) h_delay_of ft (by first | decide | omega) (by rfl) (fun _ _ _ _ _ _ us hl => match us, hl with | [_, _], _ => rfl) (am_cons (x_add (x_v 1) (x_v 5)) (am_cons (x_add (x_v 2) (x_v 6)) am_nil))) (by rfl))))) (ssm_one (sm_ret x_bool)) ssm_nil)
    (ssm_cons (sm_if (tm_w (wm_and (tm_val (x_v 4)) (wm_and1 (tm_w (wm_or (t_cmp (c_eq ft) (em_ix (x_v 7) x_int (by intro _ _; rfl)) (x_strL (l := [])) (by rfl)) (wm_or1 (t_cmp (c_eq ft) (em_ix (x_v 7) x_int (by intro _ _; rfl)) (x_strL (l := [])) (by rfl)))))))) (ssm_one (sm_ret x_bool)) ssm_nil)
    (ssm_cons (sm_set (i := 8) hN rfl (Or.inl rfl) (em_call (x := "_law_struck") (params := defArgs (top 35)) (body := defBody (top 35)) (scope := defScope (top 35)) (ps := ["one", "other"]) h__law_struck ft (by first | decide | omega) (by rfl) (fun _ _ _ _ _ _ us hl => match us, hl with | [_, _], _ => rfl) (am_cons (em_call (x := "_law_row") (params := defArgs (top 33)) (body := defBody (top 33)) (scope := defScope (top 33)) (ps := ["pot", "letters", "most"]) h__law_row ft (by first | decide | omega) (by rfl) (fun _ _ _ _ _ _ us hl => match us, hl with | [_, _, _], _ => rfl) (am_cons (x_v 0) (am_cons (x_strL (l := [120, 121])) (am_cons x_int am_nil)))) (am_cons (em_call (x := "_law_row") (params := defArgs (top 33)) (body := defBody (top 33)) (scope := defScope (top 33)) (ps := ["pot", "letters", "most"]) h__law_row ft (by first | decide | omega) (by rfl) (fun _ _ _ _ _ _ us hl => match us, hl with | [_, _, _], _ => rfl) (am_cons (x_v 0) (am_cons (x_strL (l := [120, 121])) (am_cons x_int am_nil)))) am_nil))))
    (ssm_cons (sm_if (t_cmp (c_ne ft) (x_cmp (c_eq ft) (em_call (x := "delay_then") (params := defArgs (top 23)) (body := defBody (top 23)) (scope := defScope (top 23)) (ps := ["delay", "one", "other"]) h_delay_then ft (by first | decide | omega) (by rfl) (fun _ _ _ _ _ _ us hl => match us, hl with | [_, _, _], _ => rfl) (am_cons (x_v 8) (am_cons (x_v 5) (am_cons (x_v 6) am_nil)))) (x_v 7) (by rfl)) (x_cmp (c_eq ft) (x_v 8) (x_v 3) (by rfl)) (by rfl)) (ssm_one (sm_ret x_bool)) ssm_nil)
    (ssm_cons (sm_set (i := 9) hN rfl (Or.inl rfl) (x_add (em_lst (am_cons (x_v 3) (am_cons (x_blt (b_list T.b_list) (am_cons (x_v 3) am_nil)) (am_cons (em_sl (x_v 3) om_none (om_some x_int)) (am_cons (x_add (x_v 3) (em_tup (am_cons (x_strL (l := [])) am_nil))) (am_cons (em_tup (am_cons (x_v 1) (am_cons (x_v 1) am_nil))) (am_cons (em_tup (am_cons (x_add (x_v 1) (x_strL (l := [120]))) (am_cons (x_add (x_v 1) (x_strL (l := [121]))) am_nil))) (am_cons (em_tup (am_cons (x_strL (l := [])) (am_cons (x_mul (x_strL (l := [120])) x_int) am_nil))) (am_cons (em_tup (am_cons (x_strL (l := [])) (am_cons (x_mul (x_strL (l := [120])) x_int) am_nil))) (am_cons x_none (am_cons x_int am_nil))))))))))) (em_comp rfl hN (im_rng1 rfl T.b_range (am_cons x_int am_nil)) ⟨blkOk_by (own := [("lap", 10)]) (by first | decide +kernel | rfl), (fun _ _ _ _ _ => gw_name (by decide) hN rfl (Or.inl rfl)), (fun _ _ _ _ _ => tsm_nil), (fun _ _ _ _ _ => (em_call (x := "_law_bent") (params := defArgs (top 34)) (body := defBody (top 34)) (scope := defScope (top 34)) (ps := ["pot", "value"]) (h__law_bent 12) ft.blk (by first | decide | omega) (by rfl) (fun _ _ _ _ _ _ us hl => match us, hl with | [_, _], _ => rfl) (am_cons (x_v 0) (am_cons (x_v 3) am_nil))))⟩)))
    (ssm_one (sm_ret (x_blt (b_all T.b_all) (am_cons (em_comp rfl hN (im_any (x_v 9)) ⟨blkOk_by (own := [("value", 11)]) (by first | decide +kernel | rfl), (fun _ _ _ _ _ => gw_name (by decide) hN rfl (Or.inl rfl)), (fun _ _ _ _ _ => tsm_nil), (fun _ _ _ _ _ => (x_cmp (c_eq ft.blk) (x_blt (b_repr ft.blk T.b_repr) (am_cons (em_callK0 (x := "is_delay") (params := defArgs (top 19)) (body := defBody (top 19)) (scope := defScope (top 19)) (ps := ["value"]) (ks := ["value"]) (pr := [0]) h_is_delay ft.blk (by first | decide | omega) (by rfl) (fun _ _ _ _ _ _ ws h2 => match ws, h2 with | [_], _ => ⟨rfl, rfl⟩) (km_cons (x_v 11) km_nil)) am_nil)) (x_blt (b_repr ft.blk T.b_repr) (am_cons (em_call (x := "_law_is_delay") (params := defArgs (top 36)) (body := defBody (top 36)) (scope := defScope (top 36)) (ps := ["value"]) h__law_is_delay ft.blk (by first | decide | omega) (by rfl) (fun _ _ _ _ _ _ us hl => match us, hl with | [_], _ => rfl) (am_cons (x_v 11) am_nil)) am_nil)) (by rfl)))⟩) am_nil))))))))))))))))))
def m_law : SM :=
  mSeq (mFor (mIter (mApp 2 (mCons (mV 0) (mCons (mK (.int 3)) mNil)) d__law_cells)) (mName 1) (mSeq (mSet 2 (mApp 2 (mCons (mV 0) (mCons (mV 1) mNil)) d__law_pot))
  (mIfS (mNot (mBool (mCall fAll (mCons (mComp (mRng1 (mCons (mK (.int 6)) mNil)) (bName 3) (mYes) (mApp 1 (mCons (mV 2) mNil) d__law_right) [3]) mNil)))) (mRet (mK (.bl false))) (mNext))))
  (mRet (mK (.bl true)))
def d_law : DM := mFnT 4 m_law
theorem sc_law : FnScope ["script", "place", "pot", "lap"] ["script"] (defScope (top 38)) := ⟨rfl, rfl, rfl, by decide +kernel, rfl, by decide +kernel, by decide +kernel⟩
theorem ok_law (T : Fx K mg) (h__law_cells : HasT P w K mg base 1 30 "_law_cells" ["script", "limit"] d__law_cells) (h__law_pot : HasT P w K mg base 1 27 "_law_pot" ["script", "place"] d__law_pot) (h__law_right : HasT P w K mg base 16 37 "_law_right" ["pot"] d__law_right) : HasT P w K mg base 17 38 "law" ["script"] d_law := by
  obtain ⟨f, fd, F, hm⟩ := T.f_law
  refine ⟨f, fd, F, hm, runsT (N := ["script", "place", "pot", "lap"]) (m := m_law) F sc_law fun cdv A outer s H hr hg => ?_⟩
  have ft : Fit (cxOf CX0 P w K mg base ["script", "place", "pot", "lap"] "law" (defScope (top 38)) f cdv A outer s H E0).nox 16 := ⟨hr, hg⟩
  have hN : (cxOf CX0 P w K mg base ["script", "place", "pot", "lap"] "law" (defScope (top 38)) f cdv A outer s H E0).nox.N.Nodup := (sc_law).nd
  exact (ssm_cons (sm_for PassesOwn.never rfl (im_any (em_call (x := "_law_cells") (params := defArgs (top 30)) (body := defBody (top 30)) (scope := defScope (top 30)) (ps := ["script", "limit"]) h__law_cells ft (by first | decide | omega) (by rfl) (fun _ _ _ _ _ _ us hl => match us, hl with | [_, _], _ => rfl) (am_cons (x_v 0) (am_cons x_int am_nil)))) (gm_name hN rfl (Or.inl rfl)) (ssm_cons (sm_set (i := 2) hN rfl (Or.inr rfl) (em_call (x := "_law_pot") (params := defArgs (top 27)) (body := defBody (top 27)) (scope := defScope (top 27)) (ps := ["script", "place"]) h__law_pot ft (by first | decide | omega) (by rfl) (fun _ _ _ _ _ _ us hl => match us, hl with | [_, _], _ => rfl) (am_cons (x_v 0) (am_cons (x_v 1) am_nil))))
    (ssm_one (sm_if (tm_not (tm_val (x_blt (b_all T.b_all) (am_cons (em_comp rfl hN (im_rng1 rfl T.b_range (am_cons x_int am_nil)) ⟨blkOk_by (own := [("lap", 3)]) (by first | decide +kernel | rfl), (fun _ _ _ _ _ => gw_name (by decide) hN rfl (Or.inl rfl)), (fun _ _ _ _ _ => tsm_nil), (fun _ _ _ _ _ => (em_call (x := "_law_right") (params := defArgs (top 37)) (body := defBody (top 37)) (scope := defScope (top 37)) (ps := ["pot"]) h__law_right ft.blk (by first | decide | omega) (by rfl) (fun _ _ _ _ _ _ us hl => match us, hl with | [_], _ => rfl) (am_cons (x_v 2) am_nil)))⟩) am_nil)))) (ssm_one (sm_ret x_bool)) ssm_nil))))
    (ssm_one (sm_ret x_bool)))
theorem ok_all (T : Fx K mg) : HasT P w K mg base 17 38 "law" ["script"] d_law := by
  have h__law_cells := ok__law_cells (P := P) (w := w) (base := base) T
  have h__law_pot := ok__law_pot (P := P) (w := w) (base := base) T
  have h__law_take := ok__law_take (P := P) (w := w) (base := base) T
  have h__law_of := ok__law_of (P := P) (w := w) (base := base) T h__law_take
  have h__law_struck := ok__law_struck (P := P) (w := w) (base := base) T
  have h_are_signs := ok_are_signs (P := P) (w := w) (base := base) T
  have h_is_signs := ok_is_signs (P := P) (w := w) (base := base) T h_are_signs
  have h_is_row_of := ok_is_row_of (P := P) (w := w) (base := base) T h_is_signs
  have h_check_texts := ok_check_texts (P := P) (w := w) (base := base) T h_is_row_of
  have h_is_tuple_of := ok_is_tuple_of (P := P) (w := w) (base := base) T
  have h_is_parted_of := ok_is_parted_of (P := P) (w := w) (base := base) T
  have h_is_delay_of := ok_is_delay_of (P := P) (w := w) (base := base) T h_is_tuple_of h_is_row_of h_is_parted_of
  have h_check_delay := ok_check_delay (P := P) (w := w) (base := base) T h_is_delay_of
  have h_common_many := ok_common_many (P := P) (w := w) (base := base) T
  have h_delay_by := ok_delay_by (P := P) (w := w) (base := base) T h_common_many
  have h_then_by := ok_then_by (P := P) (w := w) (base := base) T h_delay_by
  have h_delay_then := ok_delay_then (P := P) (w := w) (base := base) T h_check_texts h_check_delay h_then_by h_is_delay_of
  have h__law_row := ok__law_row (P := P) (w := w) (base := base) T h__law_of h__law_take
  have h_is_delay := ok_is_delay (P := P) (w := w) (base := base) T h_is_delay_of
  have h_is_parted := ok_is_parted (P := P) (w := w) (base := base) T h_check_delay h_is_parted_of
  have h_delay_of := ok_delay_of (P := P) (w := w) (base := base) T h_check_texts h_delay_by
  have h__law_is_int := ok__law_is_int (P := P) (w := w) (base := base) T
  have h__law_bent := ok__law_bent (P := P) (w := w) (base := base) T h__law_is_int h__law_of h__law_take
  have h_delay_swapped := ok_delay_swapped (P := P) (w := w) (base := base) T h_check_delay
  have h__law_signs := ok__law_signs (P := P) (w := w) (base := base) T
  have h__law_is_delay := ok__law_is_delay (P := P) (w := w) (base := base) T h__law_signs
  have h__law_right := ok__law_right (P := P) (w := w) (base := base) T h__law_of h__law_struck h_delay_then h__law_row h_is_delay h_is_parted h_delay_of h__law_bent h_delay_swapped h__law_is_delay
  have h_law := ok_law (P := P) (w := w) (base := base) T h__law_cells h__law_pot h__law_right
  exact h_law
end
end Lw

namespace Lw
open PySem PySem.Spec PyProof.Rows L2 Pv
local macro_rules | `(tactic| trivial) => `(tactic| first
  | with_reducible refine ev_seq ?_ | with_reducible refine ev_set ?_ | with_reducible refine ev_ret ?_ | with_reducible refine aft_nx ?_ | with_reducible refine aft_rt ?_ | with_reducible refine ev_next ?_ | with_reducible refine ev_ifS ?_ | with_reducible refine ev_par ?_ | with_reducible refine ev_asg ?_ | with_reducible refine ev_expr ?_
  | with_reducible refine ev_K ?_ | ((with_reducible apply ev_V); exact rfl) | with_reducible refine ev_bin ?_ | with_reducible refine ev_un ?_ | with_reducible refine ev_nil ?_ | with_reducible refine ev_cons ?_ | with_reducible refine ev_call ?_ | with_reducible refine ev_app ?_ | with_reducible refine ev_appK ?_ | with_reducible refine ev_tup ?_ | with_reducible refine ev_lst ?_ | with_reducible refine ev_cell ?_
  | with_reducible refine ev_bool ?_ | with_reducible refine ev_if ?_ | with_reducible refine ev_and ?_ | with_reducible refine ev_or ?_ | with_reducible refine ev_not ?_ | with_reducible refine ev_andV ?_ | with_reducible refine ev_orV ?_ | with_reducible refine ev_notV ?_ | with_reducible refine ev_chain ?_ | with_reducible refine ev_sl ?_ | with_reducible refine ev_noPart ?_ | with_reducible refine ev_part ?_
  | with_reducible refine exB ?_ | with_reducible refine exI ?_ | with_reducible refine exS ?_ | with_reducible refine ex2 ?_ | with_reducible refine brT ?_ | with_reducible refine brF ?_ | with_reducible refine brNT ?_ | with_reducible refine brNF ?_
  | with_reducible refine br (fun _ => ?_) (fun _ => ?_) | refine brN (fun _ => ?_) (fun _ => ?_)
  | with_reducible refine s_add_ii ?_ | with_reducible refine s_sub ?_ | with_reducible refine s_lt ?_ | with_reducible refine s_le ?_ | with_reducible refine s_gt ?_ | with_reducible refine s_ge ?_ | with_reducible refine s_eq_ii ?_ | with_reducible refine s_ne_ii ?_ | with_reducible refine s_neg ?_
  | with_reducible refine s_eq_ss ?_ | with_reducible refine s_ne_ss ?_ | with_reducible refine s_inS ?_ | with_reducible refine s_len_t ?_ | with_reducible refine s_len_l ?_ | with_reducible refine s_len_c ?_ | with_reducible refine s_abs ?_ | with_reducible refine s_int ?_ | with_reducible refine s_intB ?_ | with_reducible refine s_min2 ?_ | with_reducible refine s_max2 ?_
  | with_reducible refine s_ix_cell (by assumption) rfl ?_ | with_reducible refine s_mod (by omega) ?_ | with_reducible refine s_div (by omega) ?_ | with_reducible refine s_mul_ii (by omega) ?_
  | refine s_isi' (b := true) rfl rfl rfl ?_ | refine s_isi' (b := false) rfl rfl rfl ?_
  | refine ⟨Nat.le_of_ble_eq_true rfl, ?_⟩ | with_reducible refine turn_nx ?_ | with_reducible refine turn_rt ?_ | with_reducible refine ret_rt ?_ | with_reducible refine ret_nx ?_ | with_reducible refine len1 rfl ?_
  | with_reducible refine s_len_s (by first | assumption | omega) ?_ | with_reducible refine s_to_s (by first | decide | omega) (by omega) ?_ | with_reducible refine s_from_s (by first | decide | omega) (by omega) ?_ | with_reducible refine s_to_t (by first | decide | omega) ?_ | with_reducible refine s_from_t (by first | decide | omega) ?_
  | ((with_reducible apply s_ix_t); exact rfl) | ((with_reducible apply s_ix_l); exact rfl)
  | with_reducible refine ev_strM ?_ | with_reducible refine ev_strM0 ?_ | with_reducible refine ev_sub ?_)
theorem t_take {k : Nat} {n u : Int} {S0 S : Sto} {P : D → Sto → Prop} (h : PS k n S0 S) (hu : 0 < u ∧ u < 1073741824) (hn : n ≤ 1000000)
    (q : ∀ (r : Int) (S' : Sto), 0 ≤ r → r < u → PS k (n + 1) S0 S' → P (.int r) S') : Ev (d__law_take [.cell k, .int u] S) P := by
  obtain ⟨own, p1, p2, e, h1, h2, h3, h4, h5⟩ := h.at
  refine ev_fnT ?_
  unfold m__law_take
  repeat' trivial
  · refine ⟨k, 0, _, 0, rfl, rfl, e, rfl, ?_⟩
    repeat' trivial
    have z := h.put (m := n + 1) (c := .lst [.int (own / u), .int p1, .int p2]) ⟨_, _, _, rfl, Int.ediv_nonneg h1 (by omega), h2, h3, h4, by omega⟩
    exact ⟨by rw [List.length_set], z.fl, rfl, q _ _ (Int.emod_nonneg _ (by omega)) (Int.emod_lt_of_pos _ hu.1) z⟩
  · refine ⟨k, 2, _, 2, rfl, rfl, e, rfl, ?_⟩
    have z := h.put (m := n + 1) (c := .lst [.int own, .int p1, .int (p2 + 1)]) ⟨_, _, _, rfl, h1, h2, h3, by omega, by omega⟩
    have hl : (S.set k (.lst [.int own, .int p1, .int (p2 + 1)])).length = S.length := List.length_set
    have e2 : (S.set k (.lst [.int own, .int p1, .int (p2 + 1)]))[k]? = some (.lst [.int own, .int p1, .int (p2 + 1)]) := by rw [List.getElem?_set_self (by rw [h.len]; exact h.lt)]
    show Aft _ _ _ (S.set k (.lst [.int own, .int p1, .int (p2 + 1)]))
    generalize S.set k (.lst [.int own, .int p1, .int (p2 + 1)]) = S2 at z hl e2 ⊢
    repeat' trivial
    obtain ⟨pr, e3, hp⟩ : ∃ pr : Int, atI [D.int 2147483647, D.int 2147483629, D.int 2147483587, D.int 2147483579] ((p2 + 1) % 4) = some (.int pr) ∧ 0 < pr ∧ pr < 2147483648 := by
      have m1 : 0 ≤ (p2 + 1) % 4 := Int.emod_nonneg _ (by decide)
      have m2 : (p2 + 1) % 4 < 4 := Int.emod_lt_of_pos _ (by decide)
      generalize (p2 + 1) % 4 = m at m1 m2
      have : m = 0 ∨ m = 1 ∨ m = 2 ∨ m = 3 := by omega
      rcases this with rfl | rfl | rfl | rfl
      · exact ⟨2147483647, rfl, by decide, by decide⟩
      · exact ⟨2147483629, rfl, by decide, by decide⟩
      · exact ⟨2147483587, rfl, by decide, by decide⟩
      · exact ⟨2147483579, rfl, by decide, by decide⟩
    refine s_ix_l e3 ?_
    repeat' trivial
    have b1 : 183069 * (p2 + 1) * (p2 + 1) ≤ 183069 * 1000001 * 1000001 := Int.mul_le_mul (by omega) (by omega) (by omega) (by decide)
    have b0 : 0 ≤ 183069 * (p2 + 1) * (p2 + 1) := Int.mul_nonneg (by omega) (by omega)
    have bb := intBits_le_64 (k := p1 + 183069 * (p2 + 1) * (p2 + 1) + 6004) (by omega) (by omega)
    refine s_pow ⟨by decide, by omega⟩ ?_
    repeat' trivial
    have c0 := Int.emod_nonneg ((p1 + 183069 * (p2 + 1) * (p2 + 1) + 6004) ^ (3 : Int).toNat) (show pr ≠ 0 by omega)
    have c1 := Int.emod_lt_of_pos ((p1 + 183069 * (p2 + 1) * (p2 + 1) + 6004) ^ (3 : Int).toNat) hp.1
    exact ⟨hl, z.fl, rfl, q _ _ (Int.emod_nonneg _ (by omega)) (Int.emod_lt_of_pos _ hu.1) z⟩
/-! ### one of many -/
theorem t_ofS {k : Nat} {n : Int} {S0 S : Sto} {P : D → Sto → Prop} {l : List Nat} (h : PS k n S0 S) (hl : l ≠ []) (hl2 : l.length ≤ 1000) (hn : n ≤ 1000000)
    (q : ∀ (c : Nat) (S' : Sto), c ∈ l → PS k (n + 1) S0 S' → P (txt [c]) S') : Ev (d__law_of [.cell k, txt l] S) P := by
  have hp : 0 < l.length := List.length_pos_iff.mpr hl
  refine ev_fnT ?_
  unfold m__law_of
  repeat' trivial
  refine t_take h (by omega) hn fun r S' h0 h1 h' => ?_
  obtain ⟨c, e, hc⟩ := atI_mem h0 h1
  exact s_ix_s (by omega) e ⟨h'.len.trans h.len.symm, h'.fl, rfl, q c S' hc h'⟩
theorem clL_mem {xs : List D} (h : clL 0 xs = true) : ∀ {d : D}, d ∈ xs → clD 0 d = true := by
  induction xs with
  | nil => intro d hd; cases hd
  | cons x xs ih =>
    intro d hd
    have h' : (clD 0 x && clL 0 xs) = true := h
    rw [Bool.and_eq_true] at h'
    exact (List.mem_cons.mp hd).elim (fun e => e ▸ h'.1) (ih h'.2)
theorem t_ofL {k : Nat} {n : Int} {S0 S : Sto} {P : D → Sto → Prop} {xs : List D} (h : PS k n S0 S) (hl : 0 < xs.length ∧ xs.length ≤ 1000) (hx : clL 0 xs = true) (hn : n ≤ 1000000)
    (q : ∀ (d : D) (S' : Sto), d ∈ xs → PS k (n + 1) S0 S' → P d S') : Ev (d__law_of [.cell k, .lst xs] S) P := by
  refine ev_fnT ?_
  unfold m__law_of
  repeat' trivial
  refine t_take h (by omega) hn fun r S' h0 h1 h' => ?_
  obtain ⟨d, e, hd⟩ := atI_mem h0 h1
  exact s_ix_l e ⟨h'.len.trans h.len.symm, h'.fl, clL_mem hx hd, q d S' hd h'⟩
theorem t_row {k : Nat} {n most : Int} {S0 S : Sto} {P : D → Sto → Prop} {l : List Nat} (h : PS k n S0 S) (hl : l ≠ []) (hl2 : l.length ≤ 1000) (hm : 0 ≤ most ∧ most ≤ 1000) (hn : n ≤ 900000)
    (q : ∀ (a : List Nat) (S' : Sto), (a.length : Int) ≤ most → (∀ c, c ∈ a → c ∈ l) → PS k (n + 1 + most) S0 S' → P (txt a) S') : Ev (d__law_row [.cell k, txt l, .int most] S) P := by
  refine ev_fnT ?_
  unfold m__law_row
  repeat' trivial
  refine ev_comp (ev_rng1 ?_)
  repeat' trivial
  refine t_take h (by omega) (by omega) fun r S1 h0 h1 h' => ?_
  repeat' trivial
  refine ⟨r, rfl, by omega, ?_⟩
  have hlen : (rngD 0 r.toNat).length = r.toNat := by simp [rngD]
  refine ⟨by omega, ?_⟩
  refine comp_invN (fun i S => PS k (n + 1 + i) S0 S) (fun y => ∃ c, c ∈ l ∧ y = txt [c]) r.toNat 0 (fun x i S hx hi hI => ?_) (by rw [hlen]; omega) (by simpa using h') fun ys S' hy hys hi => ?_
  · refine ⟨_, rfl, ?_⟩
    repeat' trivial
    refine t_ofS hI hl hl2 (by omega) fun c S' hc hp => ⟨⟨c, hc, rfl⟩, hp.up (by omega)⟩
  · obtain ⟨a, rfl, ha⟩ := ys_of hys
    rw [List.length_map, hlen] at hy
    refine s_join1 (by omega) ⟨hi.len.trans h.len.symm, hi.fl, rfl, q a S' (by omega) ha (hi.up (by rw [hlen]; omega))⟩
/-! ### the begin that two have in common -/
def lcp : List Nat → List Nat → Nat
  | x :: a, y :: b => if x = y then lcp a b + 1 else 0
  | _, _ => 0
def strike : List Nat → List Nat → List Nat × List Nat
  | x :: a, y :: b => if x = y then strike a b else (x :: a, y :: b)
  | a, b => (a, b)
theorem strike_lcp : ∀ a b, strike a b = (a.drop (lcp a b), b.drop (lcp a b))
  | [], b => by simp [strike, lcp]
  | x :: a, [] => by simp [strike, lcp]
  | x :: a, y :: b => by
    unfold strike lcp
    by_cases h : x = y
    · rw [if_pos h, if_pos h, strike_lcp a b]; rfl
    · rw [if_neg h, if_neg h]; rfl
def pr (p : List Nat × List Nat) : D := .tup [txt p.1, txt p.2]
/-- one look: the first strokes alike are struck -/
def look (p : List Nat × List Nat) : List Nat × List Nat := if p.1.take 1 = p.2.take 1 then (p.1.drop 1, p.2.drop 1) else p
def looks : Nat → List Nat × List Nat → List Nat × List Nat
  | 0, p => p
  | n + 1, p => looks n (look p)
theorem looks_stay {p : List Nat × List Nat} (h : look p = p) : ∀ n, looks n p = p
  | 0 => rfl
  | n + 1 => by unfold looks; rw [h]; exact looks_stay h n
theorem looks_strike : ∀ (n : Nat) (a b : List Nat), min a.length b.length ≤ n → looks n (a, b) = strike a b
  | 0, [], b, _ => by simp [looks, strike]
  | 0, x :: a, [], _ => by simp [looks, strike]
  | 0, x :: a, y :: b, h => by simp at h
  | n + 1, [], [], _ => by rw [looks_stay (by simp [look])]; simp [strike]
  | n + 1, [], y :: b, _ => by rw [looks_stay (by simp [look])]; simp [strike]
  | n + 1, x :: a, [], _ => by rw [looks_stay (by simp [look])]; simp [strike]
  | n + 1, x :: a, y :: b, h => by
    unfold strike
    by_cases e : x = y
    · rw [if_pos e]
      unfold looks
      rw [show look (x :: a, y :: b) = (a, b) by simp [look, e]]
      exact looks_strike n a b (by simp at h; omega)
    · rw [if_neg e, looks_stay (by simp [look, e])]
theorem look_len (p : List Nat × List Nat) : (look p).1.length ≤ p.1.length ∧ (look p).2.length ≤ p.2.length := by
  unfold look
  by_cases h : p.1.take 1 = p.2.take 1
  · rw [if_pos h]; simp
  · rw [if_neg h]; exact ⟨Nat.le_refl _, Nat.le_refl _⟩
theorem t_struck {S : Sto} {P : D → Sto → Prop} {a b : List Nat} (hS : flatS S) (ha : a.length ≤ 900000) (hb : b.length ≤ 900000) (q : P (pr (strike a b)) S) : Ev (d__law_struck [txt a, txt b] S) P := by
  refine ev_fnT ?_
  unfold m__law_struck
  refine ev_seq (ev_for (ev_rng1 ?_))
  repeat' trivial
  refine ⟨_, rfl, by split <;> omega, ?_⟩
  have hn : (if (b.length : Int) < (a.length : Int) then (b.length : Int) else (a.length : Int)).toNat = min a.length b.length := by split <;> omega
  rw [hn]
  have key : ∀ (n : Nat) (xs : List D) (a b : List Nat) (z : Option D), xs.length = n → a.length ≤ 900000 → b.length ≤ 900000 → ∀ Q : Fl → Sto → Prop, (∀ z', Q (.nx [some (txt (looks n (a, b)).1), some (txt (looks n (a, b)).2), z']) S) →
      Ev (loopM (mName 2) (mIfS (mBool (mBin fEq (mSl (mV 0) (mNoPart) (mPart (mK (.int 1)))) (mSl (mV 1) (mNoPart) (mPart (mK (.int 1)))))) (mPar 0 1 (mCons (mSl (mV 0) (mPart (mK (.int 1))) (mNoPart)) (mCons (mSl (mV 1) (mPart (mK (.int 1))) (mNoPart)) mNil))) (mNext)) xs [some (txt a), some (txt b), z] S) Q := by
    intro n
    induction n with
    | zero =>
      intro xs a b z hx _ _ Q hQ
      rw [List.length_eq_zero_iff.mp hx]
      exact loop_nil (hQ z)
    | succ n ih =>
      intro xs a b z hx ha hb Q hQ
      cases xs with
      | nil => simp at hx
      | cons x xs =>
        have hx : xs.length = n := by simpa using hx
        have e : looks (n + 1) (a, b) = looks n (look (a, b)) := rfl
        have hl := look_len (a, b)
        refine loop_cons (ev_name ?_)
        repeat' trivial
        · rename_i hh
          have e2 : look (a, b) = (a.drop 1, b.drop 1) := if_pos hh
          rw [e, e2] at hQ
          exact ih xs _ _ (some x) hx (by rw [List.length_drop]; omega) (by rw [List.length_drop]; omega) Q hQ
        · rename_i hh
          have e2 : look (a, b) = (a, b) := if_neg hh
          rw [e, e2] at hQ
          exact ih xs _ _ (some x) hx ha hb Q hQ
  refine key (min a.length b.length) _ a b none (by simp [rngD]) ha hb _ fun z' => ?_
  rw [looks_strike _ _ _ (Nat.le_refl _)]
  refine aft_nx ?_
  repeat' trivial
/-! ### rows, delays: what the program's looks tell -/
def low : List Nat := [97, 98, 99, 100, 101, 102, 103, 104, 105, 106, 107, 108, 109, 110, 111, 112, 113, 114, 115, 116, 117, 118, 119, 120, 121, 122]
def lowB (a : List Nat) : Bool := a.all fun c => decide (c ∈ low)
mutual
/-- a value such as the law makes: not too great -/
def small : D → Bool
  | .non => true
  | .bl _ => true
  | .int _ => true
  | .str x => decide (x.cps.toList.length ≤ 5000)
  | .tup xs => smalls xs
  | .lst xs => smalls xs
  | _ => false
def smalls : List D → Bool
  | [] => true
  | x :: xs => small x && smalls xs
end
theorem str_tl (x : Str) : ∃ a, D.str x = txt a ∧ x.cps.toList = a := ⟨x.cps.toList, (congrArg D.str (SX.S_tl x)).symm, rfl⟩
theorem all_map {α : Type} (xs : List α) (p : α → Bool) : (xs.map fun c => p c).all id = xs.all p := by
  induction xs with
  | nil => rfl
  | cons x xs ih => rw [List.map_cons, List.all_cons, List.all_cons, ih]; rfl
theorem t_signs {S : Sto} {P : D → Sto → Prop} {a : List Nat} (hS : flatS S) (ha : a.length ≤ 5000) (q : P (.bl (lowB a)) S) : Ev (d_are_signs [txt a] S) P := by
  refine ev_fnT ?_
  unfold m_are_signs
  repeat' trivial
  refine ev_comp (ev_iterS ?_)
  repeat' trivial
  refine ⟨by show (a.map _).length ≤ _; rw [List.length_map]; omega, comp_mapL (fun c => txt [c]) (fun c => .bl (decide (c ∈ low))) (xs := a) (fun c hc => ⟨_, rfl, ?_⟩) ?_⟩
  · repeat' trivial
  · repeat' trivial
    rw [show (a.map fun c => D.bl (decide (c ∈ low))) = (a.map fun c => decide (c ∈ low)).map D.bl by rw [List.map_map]; rfl]
    refine s_all ⟨rfl, hS, rfl, ?_⟩
    rw [all_map]
    exact q
def rowB : D → Bool
  | .str x => decide (x.cps.toList.length ≤ 2000) && lowB x.cps.toList
  | _ => false
theorem t_isRow {S : Sto} {P : D → Sto → Prop} {v : D} (hS : flatS S) (hv : small v = true) (q : P (.bl (rowB v)) S) : Ev (d_is_row_of [v] S) P := by
  refine ev_fnT ?_
  unfold m_is_row_of
  repeat' trivial
  refine ev_fnT ?_
  unfold m_is_signs
  cases v with
  | str x =>
    obtain ⟨a, e, e2⟩ := str_tl x
    have ha : a.length ≤ 5000 := by rw [← e2]; exact of_decide_eq_true hv
    have q' : P (.bl (decide (a.length ≤ 2000) && lowB a)) S := by rw [← e2]; exact q
    rw [e]
    repeat' trivial
    · refine t_signs hS ha ?_
      rw [decide_eq_true (by omega), Bool.true_and] at q'
      repeat' trivial
    · rw [decide_eq_false (by omega), Bool.false_and] at q'
      exact ⟨rfl, hS, rfl, q'⟩
    · exfalso; omega
  | cell k => cases hv
  | ty n => cases hv
  | scr xs => cases hv
  | _ => repeat' trivial
/-- delays -/
def partedB (p : List Nat × List Nat) : Bool := !decide (p.1 = []) && !decide (p.2 = [])
theorem t_isTuple {S : Sto} {P : D → Sto → Prop} {v : D} {m : Int} (hS : flatS S) (hv : small v = true) (q : P (.bl (match v with | .tup xs => decide ((xs.length : Int) = m) | _ => false)) S) : Ev (d_is_tuple_of [v, .int m] S) P := by
  refine ev_fnT ?_
  unfold m_is_tuple_of
  cases v with
  | cell k => cases hv
  | ty n => cases hv
  | scr xs => cases hv
  | _ => repeat' trivial
theorem t_isParted {S : Sto} {P : D → Sto → Prop} {p : List Nat × List Nat} (hS : flatS S) (q : P (.bl (partedB p)) S) : Ev (d_is_parted_of [pr p] S) P := by
  refine ev_fnT ?_
  unfold m_is_parted_of pr
  have q' : P (.bl (!decide (p.1 = []) && !decide (p.2 = []))) S := q
  repeat' trivial
  · rw [decide_eq_false (by assumption)] at q'
    exact ⟨rfl, hS, rfl, q'⟩
  · rw [decide_eq_true (by assumption)] at q'
    exact ⟨rfl, hS, rfl, q'⟩
/-- no stroke is first in both -/
def redB : List Nat → List Nat → Bool
  | x :: _, y :: _ => !decide (x = y)
  | _, _ => true
def delayB : D → Bool
  | .tup [.str x, .str y] => rowB (.str x) && rowB (.str y) && redB x.cps.toList y.cps.toList
  | _ => false
theorem delayB_tup (x y : D) : delayB (.tup [x, y]) = (rowB x && rowB y && match x, y with | .str u, .str v => redB u.cps.toList v.cps.toList | _, _ => false) := by
  cases x <;> cases y <;> simp [delayB, rowB]
theorem rowB_str {x : D} (h : rowB x = true) : ∃ a, x = txt a ∧ a.length ≤ 2000 ∧ lowB a = true := by
  cases x with
  | str z =>
    have h' : (decide (z.cps.toList.length ≤ 2000) && lowB z.cps.toList) = true := h
    rw [Bool.and_eq_true, decide_eq_true_eq] at h'
    obtain ⟨a, e, e2⟩ := str_tl z
    exact ⟨a, e, by rw [← e2]; exact h'.1, by rw [← e2]; exact h'.2⟩
  | _ => cases h
theorem at0 {α : Type} {c : α} {a : List α} : atI (c :: a) 0 = some c := by
  obtain ⟨x, e, _⟩ := atI_mem (xs := c :: a) (i := 0) (by decide) (by rw [List.length_cons]; omega)
  unfold atI ixN at e ⊢
  rw [if_pos (by decide), if_pos (by rw [List.length_cons]; omega)]
  rfl
theorem delayB_not {xs : List D} (h : xs.length ≠ 2) : delayB (.tup xs) = false := by
  match xs, h with
  | [], _ => rfl
  | [x], _ => cases x <;> rfl
  | x :: y :: z :: r, _ => cases x <;> cases y <;> rfl
  | [x, y], h => exact absurd rfl h
theorem t_isDelayOf {S : Sto} {P : D → Sto → Prop} {v : D} (hS : flatS S) (hv : small v = true) (q : P (.bl (delayB v)) S) : Ev (d_is_delay_of [v] S) P := by
  refine ev_fnT ?_
  unfold m_is_delay_of
  repeat' trivial
  refine t_isTuple hS hv ?_
  cases v with
  | cell k => cases hv
  | ty n => cases hv
  | scr xs => cases hv
  | tup xs =>
    by_cases hl : xs.length = 2
    · match xs, hl, hv, q with
      | [x, y], _, hv, q =>
        have hv' : (small x && (small y && true)) = true := hv
        simp only [Bool.and_eq_true] at hv'
        rw [delayB_tup] at q
        repeat' trivial
        refine t_isRow hS hv'.1 ?_
        cases hx : rowB x with
        | false =>
          rw [hx] at q
          repeat' trivial
        | true =>
          repeat' trivial
          refine t_isRow hS hv'.2.1 ?_
          cases hy : rowB y with
          | false =>
            rw [hx, hy] at q
            repeat' trivial
          | true =>
            rw [hx, hy] at q
            obtain ⟨a, rfl, ha, la⟩ := rowB_str hx
            obtain ⟨b, rfl, hb, lb⟩ := rowB_str hy
            have q' : P (.bl (redB a b)) S := q
            repeat' trivial
            refine t_isParted (p := (a, b)) hS ?_
            cases a with
            | nil =>
              rw [show partedB ([], b) = false from rfl]
              repeat' trivial
            | cons c a =>
              cases b with
              | nil =>
                rw [show partedB (c :: a, []) = false by simp [partedB]]
                repeat' trivial
              | cons d b =>
                rw [show partedB (c :: a, d :: b) = true by simp [partedB]]
                repeat' trivial
                refine s_ix_s (a := c :: a) (c := c) (by omega) at0 ?_
                repeat' trivial
                refine s_ix_s (a := d :: b) (c := d) (by omega) at0 ?_
                repeat' trivial
                exact ⟨rfl, hS, rfl, by simpa [redB] using q'⟩
    · rw [delayB_not hl] at q
      repeat' trivial
      · exfalso
        omega
  | _ => repeat' trivial
theorem small_pr {a b : List Nat} (ha : a.length ≤ 5000) (hb : b.length ≤ 5000) : small (pr (a, b)) = true := by
  show (decide (a.length ≤ 5000) && (decide (b.length ≤ 5000) && true)) = true
  rw [decide_eq_true ha, decide_eq_true hb]; rfl
theorem rowB_txt {a : List Nat} (ha : a.length ≤ 2000) (la : lowB a = true) : rowB (txt a) = true := by
  show (decide (a.length ≤ 2000) && lowB a) = true
  rw [decide_eq_true ha, la]; rfl
theorem delayB_pr {a b : List Nat} (ha : a.length ≤ 2000) (la : lowB a = true) (hb : b.length ≤ 2000) (lb : lowB b = true) : delayB (pr (a, b)) = redB a b := by
  show (rowB (txt a) && rowB (txt b) && redB a b) = _
  rw [rowB_txt ha la, rowB_txt hb lb]; rfl
theorem t_checkTexts {S : Sto} {P : D → Sto → Prop} {a b : List Nat} (hS : flatS S) (ha : a.length ≤ 2000) (la : lowB a = true) (hb : b.length ≤ 2000) (lb : lowB b = true) (q : P .non S) : Ev (d_check_texts [txt a, txt b] S) P := by
  refine ev_fnT ?_
  unfold m_check_texts
  refine ev_for (ev_iterT ?_)
  repeat' trivial
  refine ⟨_, rfl, loop_cons (ev_name ?_)⟩
  repeat' trivial
  refine t_isRow hS (by show decide _ = true; exact decide_eq_true (by show a.length ≤ 5000; omega)) ?_
  rw [rowB_txt ha la]
  repeat' trivial
  refine loop_cons (ev_name ?_)
  repeat' trivial
  refine t_isRow hS (by show decide _ = true; exact decide_eq_true (by show b.length ≤ 5000; omega)) ?_
  rw [rowB_txt hb lb]
  repeat' trivial
theorem t_checkDelay {S : Sto} {P : D → Sto → Prop} {v : D} (hS : flatS S) (hv : small v = true) (h : delayB v = true) (q : P .non S) : Ev (d_check_delay [v] S) P := by
  refine ev_fnT ?_
  unfold m_check_delay
  repeat' trivial
  refine t_isDelayOf hS hv ?_
  rw [h]
  repeat' trivial
theorem t_isDelay {S : Sto} {P : D → Sto → Prop} {v : D} (hS : flatS S) (hv : small v = true) (q : P (.bl (delayB v)) S) : Ev (d_is_delay [v] S) P := by
  refine ev_fnT ?_
  unfold m_is_delay
  repeat' trivial
  refine t_isDelayOf hS hv ?_
  repeat' trivial
theorem t_swapped {S : Sto} {P : D → Sto → Prop} {a b : List Nat} (hS : flatS S) (hv : small (pr (a, b)) = true) (h : delayB (pr (a, b)) = true) (q : P (pr (b, a)) S) : Ev (d_delay_swapped [pr (a, b)] S) P := by
  refine ev_fnT ?_
  unfold m_delay_swapped
  repeat' trivial
  refine t_checkDelay hS hv h ?_
  unfold pr
  repeat' trivial
theorem t_parted {S : Sto} {P : D → Sto → Prop} {a b : List Nat} (hS : flatS S) (hv : small (pr (a, b)) = true) (h : delayB (pr (a, b)) = true) (q : P (.bl (partedB (a, b))) S) : Ev (d_is_parted [pr (a, b)] S) P := by
  refine ev_fnT ?_
  unfold m_is_parted
  repeat' trivial
  refine t_checkDelay hS hv h ?_
  repeat' trivial
  refine t_isParted hS ?_
  repeat' trivial
end Lw

namespace Lw
open PySem PySem.Spec PyProof.Rows L2 Pv
local macro_rules | `(tactic| trivial) => `(tactic| first
  | with_reducible refine ev_seq ?_ | with_reducible refine ev_set ?_ | with_reducible refine ev_ret ?_ | with_reducible refine aft_nx ?_ | with_reducible refine aft_rt ?_ | with_reducible refine ev_next ?_ | with_reducible refine ev_ifS ?_ | with_reducible refine ev_par ?_ | with_reducible refine ev_asg ?_ | with_reducible refine ev_expr ?_
  | with_reducible refine ev_K ?_ | ((with_reducible apply ev_V); exact rfl) | with_reducible refine ev_bin ?_ | with_reducible refine ev_un ?_ | with_reducible refine ev_nil ?_ | with_reducible refine ev_cons ?_ | with_reducible refine ev_call ?_ | with_reducible refine ev_app ?_ | with_reducible refine ev_appK ?_ | with_reducible refine ev_tup ?_ | with_reducible refine ev_lst ?_ | with_reducible refine ev_cell ?_
  | with_reducible refine ev_bool ?_ | with_reducible refine ev_if ?_ | with_reducible refine ev_and ?_ | with_reducible refine ev_or ?_ | with_reducible refine ev_not ?_ | with_reducible refine ev_andV ?_ | with_reducible refine ev_orV ?_ | with_reducible refine ev_notV ?_ | with_reducible refine ev_chain ?_ | with_reducible refine ev_sl ?_ | with_reducible refine ev_noPart ?_ | with_reducible refine ev_part ?_
  | with_reducible refine exB ?_ | with_reducible refine exI ?_ | with_reducible refine exS ?_ | with_reducible refine ex2 ?_ | with_reducible refine brT ?_ | with_reducible refine brF ?_ | with_reducible refine brNT ?_ | with_reducible refine brNF ?_
  | with_reducible refine br (fun _ => ?_) (fun _ => ?_) | refine brN (fun _ => ?_) (fun _ => ?_)
  | with_reducible refine s_add_ii ?_ | with_reducible refine s_sub ?_ | with_reducible refine s_lt ?_ | with_reducible refine s_le ?_ | with_reducible refine s_gt ?_ | with_reducible refine s_ge ?_ | with_reducible refine s_eq_ii ?_ | with_reducible refine s_ne_ii ?_ | with_reducible refine s_neg ?_
  | with_reducible refine s_eq_ss ?_ | with_reducible refine s_ne_ss ?_ | with_reducible refine s_inS ?_ | with_reducible refine s_len_t ?_ | with_reducible refine s_len_l ?_ | with_reducible refine s_len_c ?_ | with_reducible refine s_abs ?_ | with_reducible refine s_int ?_ | with_reducible refine s_intB ?_ | with_reducible refine s_min2 ?_ | with_reducible refine s_max2 ?_
  | with_reducible refine s_ix_cell (by assumption) rfl ?_ | with_reducible refine s_mod (by omega) ?_ | with_reducible refine s_div (by omega) ?_ | with_reducible refine s_mul_ii (by omega) ?_
  | refine s_isi' (b := true) rfl rfl rfl ?_ | refine s_isi' (b := false) rfl rfl rfl ?_
  | refine ⟨Nat.le_of_ble_eq_true rfl, ?_⟩ | with_reducible refine turn_nx ?_ | with_reducible refine turn_rt ?_ | with_reducible refine ret_rt ?_ | with_reducible refine ret_nx ?_ | with_reducible refine len1 rfl ?_
  | with_reducible refine s_len_s (by first | assumption | omega) ?_ | with_reducible refine s_to_s (by first | decide | omega) (by omega) ?_ | with_reducible refine s_from_s (by first | decide | omega) (by omega) ?_ | with_reducible refine s_to_t (by first | decide | omega) ?_ | with_reducible refine s_from_t (by first | decide | omega) ?_
  | ((with_reducible apply s_ix_t); exact rfl) | ((with_reducible apply s_ix_l); exact rfl)
  | with_reducible refine ev_strM ?_ | with_reducible refine ev_strM0 ?_ | with_reducible refine ev_sub ?_)
/-! ### the common begin, as the program reckons it -/
theorem lcp_le : ∀ a b, lcp a b ≤ a.length ∧ lcp a b ≤ b.length
  | [], b => by simp [lcp]
  | x :: a, [] => by simp [lcp]
  | x :: a, y :: b => by
    unfold lcp
    by_cases h : x = y
    · rw [if_pos h]; have := lcp_le a b; simp; omega
    · rw [if_neg h]; simp
/-- the places where they are apart, below the shorter -/
def apart (a b : List Nat) : List Nat := (List.range (min a.length b.length)).filter fun i => decide (a[i]? ≠ b[i]?)
theorem apart_lcp : ∀ a b, (match apart a b with | [] => lcp a b = min a.length b.length | i :: _ => i = lcp a b)
  | [], b => by simp [apart, lcp]
  | x :: a, [] => by simp [apart, lcp]
  | x :: a, y :: b => by
    have e : apart (x :: a) (y :: b) = (if x = y then [] else [0]) ++ (apart a b).map Nat.succ := by
      unfold apart
      rw [show min (x :: a).length (y :: b).length = min a.length b.length + 1 by simp, List.range_succ_eq_map, List.filter_cons, List.filter_map]
      by_cases h : x = y
      · simp [h]; rfl
      · simp [h]; rfl
    rw [e]
    unfold lcp
    by_cases h : x = y
    · rw [if_pos h, if_pos h, List.nil_append]
      have := apart_lcp a b
      cases q : apart a b with
      | nil => rw [q] at this; simp at this ⊢; omega
      | cons i r => rw [q] at this; simp at this ⊢; omega
    · rw [if_neg h, if_neg h]; rfl
theorem atI_nat {α : Type} {xs : List α} {n : Nat} (h : n < xs.length) : atI xs (n : Int) = some xs[n] := by
  unfold atI ixN
  rw [if_pos (by omega), if_pos (by omega)]
  show xs[(n : Int).toNat]? = _
  rw [Int.toNat_natCast]
  exact List.getElem?_eq_getElem h
theorem plnAll_ints (ns : List Nat) : plnAll (ns.map fun (i : Nat) => D.int (i : Int)) = true := by
  induction ns with
  | nil => rfl
  | cons n ns ih => show (pln (.int n) && plnAll _) = true; rw [ih]; rfl
theorem depAll_ints (ns : List Nat) : depAll (ns.map fun (i : Nat) => D.int (i : Int)) = 0 := by
  induction ns with
  | nil => rfl
  | cons n ns ih => show max (dep (.int n)) (depAll _) = 0; rw [ih]; rfl
theorem eqOk_ints (ns : List Nat) : eqOk (.lst (ns.map fun (i : Nat) => D.int (i : Int))) = true := by
  show (plnAll _ && decide (depAll _ + 1 ≤ 60)) = true
  rw [plnAll_ints, depAll_ints]; rfl
theorem t_common {S : Sto} {P : D → Sto → Prop} {a b : List Nat} (hS : flatS S) (ha : a.length ≤ 5000) (hb : b.length ≤ 5000) (q : P (.int (lcp a b)) S) : Ev (d_common_many [txt a, txt b] S) P := by
  refine ev_fnT ?_
  unfold m_common_many
  repeat' trivial
  have hn : (if (b.length : Int) < (a.length : Int) then (b.length : Int) else (a.length : Int)) = ((min a.length b.length : Nat) : Int) := by split <;> omega
  rw [hn]
  repeat' trivial
  refine ev_comp (ev_rng1 ?_)
  repeat' trivial
  refine ⟨_, rfl, by omega, by simp [rngD]; omega, ?_⟩
  have er : rngD 0 ((min a.length b.length : Nat) : Int).toNat = (List.range (min a.length b.length)).map fun (i : Nat) => .int (i : Int) := by
    unfold rngD
    rw [Int.toNat_natCast]
    apply List.map_congr_left
    intro i _
    rw [Int.zero_add]
  rw [er]
  refine comp_filtL (fun (i : Nat) => .int (i : Int)) (fun (i : Nat) => decide (a[i]? ≠ b[i]?)) (fun (i : Nat) => .int (i : Int)) (fun i hi => ⟨_, rfl, ?_, fun _ => ?_⟩) ?_
  · have hi := List.mem_range.mp hi
    repeat' trivial
    refine s_ix_s (a := a) (by omega) (atI_nat (by omega)) ?_
    repeat' trivial
    refine s_ix_s (a := b) (by omega) (atI_nat (by omega)) ?_
    repeat' trivial
    refine ⟨?_, rfl⟩
    rw [List.getElem?_eq_getElem (show i < a.length by omega), List.getElem?_eq_getElem (show i < b.length by omega)]
    simp
  · repeat' trivial
  · show Aft _ _ _ _
    have key := apart_lcp a b
    rw [show (List.range (min a.length b.length)).filter (fun i => decide (a[i]? ≠ b[i]?)) = apart a b from rfl]
    repeat' trivial
    cases e : apart a b with
    | nil =>
      rw [e] at key
      have key : lcp a b = min a.length b.length := key
      refine s_ne_D rfl rfl ?_
      show ∃ b_1, D.bl false = D.bl b_1 ∧ _
      rw [key] at q
      repeat' trivial
    | cons i r =>
      rw [e] at key
      have key : i = lcp a b := key
      refine s_ne_D (eqOk_ints (i :: r)) rfl ?_
      show ∃ b_1, D.bl true = D.bl b_1 ∧ _
      rw [← key] at q
      repeat' trivial
      refine s_ix_l at0 ?_
      repeat' trivial
theorem t_delayBy {S : Sto} {P : D → Sto → Prop} {a b : List Nat} (hS : flatS S) (ha : a.length ≤ 5000) (hb : b.length ≤ 5000) (q : P (pr (strike a b)) S) : Ev (d_delay_by [txt a, txt b] S) P := by
  refine ev_fnT ?_
  unfold m_delay_by
  rw [strike_lcp] at q
  unfold pr at q
  repeat' trivial
  refine t_common hS ha hb ?_
  repeat' trivial
theorem t_thenBy {S : Sto} {P : D → Sto → Prop} {p : List Nat × List Nat} {a b : List Nat} (hS : flatS S) (h1 : p.1.length + a.length ≤ 5000) (h2 : p.2.length + b.length ≤ 5000) (q : P (pr (strike (p.1 ++ a) (p.2 ++ b))) S) : Ev (d_then_by [pr p, txt a, txt b] S) P := by
  refine ev_fnT ?_
  unfold m_then_by
  unfold pr
  repeat' trivial
  refine s_add_ss (by omega) ?_
  repeat' trivial
  refine s_add_ss (by omega) ?_
  repeat' trivial
  refine t_delayBy hS (by rw [List.length_append]; omega) (by rw [List.length_append]; omega) ?_
  repeat' trivial
theorem t_delayOf {S : Sto} {P : D → Sto → Prop} {a b : List Nat} (hS : flatS S) (ha : a.length ≤ 2000) (la : lowB a = true) (hb : b.length ≤ 2000) (lb : lowB b = true) (q : P (pr (strike a b)) S) : Ev (d_delay_of [txt a, txt b] S) P := by
  refine ev_fnT ?_
  unfold m_delay_of
  repeat' trivial
  refine t_checkTexts hS ha la hb lb ?_
  repeat' trivial
  refine t_delayBy hS (by omega) (by omega) ?_
  repeat' trivial
theorem strike_len (a b : List Nat) : (strike a b).1.length ≤ a.length ∧ (strike a b).2.length ≤ b.length := by
  rw [strike_lcp]
  simp
theorem strike_low {a b : List Nat} (la : lowB a = true) (lb : lowB b = true) : lowB (strike a b).1 = true ∧ lowB (strike a b).2 = true := by
  rw [strike_lcp]
  unfold lowB at *
  rw [List.all_eq_true] at *
  rw [List.all_eq_true]
  exact ⟨fun c hc => la c (List.mem_of_mem_drop hc), fun c hc => lb c (List.mem_of_mem_drop hc)⟩
theorem strike_red : ∀ a b, redB (strike a b).1 (strike a b).2 = true
  | [], b => by simp [strike, redB]
  | x :: a, [] => by simp [strike, redB]
  | x :: a, y :: b => by
    unfold strike
    by_cases h : x = y
    · rw [if_pos h]; exact strike_red a b
    · rw [if_neg h]; simp [redB, h]
theorem t_delayThen {S : Sto} {P : D → Sto → Prop} {p : List Nat × List Nat} {a b : List Nat} (hS : flatS S) (h1 : p.1.length + a.length ≤ 2000) (h2 : p.2.length + b.length ≤ 2000) (lp : lowB p.1 = true ∧ lowB p.2 = true) (la : lowB a = true) (lb : lowB b = true) (hr : redB p.1 p.2 = true)
    (q : P (pr (strike (p.1 ++ a) (p.2 ++ b))) S) : Ev (d_delay_then [pr p, txt a, txt b] S) P := by
  refine ev_fnT ?_
  unfold m_delay_then
  repeat' trivial
  refine t_checkTexts hS (by omega) la (by omega) lb ?_
  repeat' trivial
  refine t_checkDelay hS (small_pr (by omega) (by omega)) (by rw [delayB_pr (by omega) lp.1 (by omega) lp.2]; exact hr) ?_
  repeat' trivial
  refine t_thenBy hS (by omega) (by omega) ?_
  repeat' trivial
  have hl := strike_len (p.1 ++ a) (p.2 ++ b)
  rw [List.length_append, List.length_append] at hl
  have hw := strike_low (a := p.1 ++ a) (b := p.2 ++ b) (by unfold lowB at *; rw [List.all_append, lp.1, la]; rfl) (by unfold lowB at *; rw [List.all_append, lp.2, lb]; rfl)
  refine t_isDelayOf hS (small_pr (by omega) (by omega)) ?_
  rw [show pr (strike (p.1 ++ a) (p.2 ++ b)) = pr ((strike (p.1 ++ a) (p.2 ++ b)).1, (strike (p.1 ++ a) (p.2 ++ b)).2) from rfl, delayB_pr (by omega) hw.1 (by omega) hw.2, strike_red]
  repeat' trivial
end Lw

namespace Lw
open PySem PySem.Spec PyProof.Rows L2 Pv
local macro_rules | `(tactic| trivial) => `(tactic| first
  | with_reducible refine ev_seq ?_ | with_reducible refine ev_set ?_ | with_reducible refine ev_ret ?_ | with_reducible refine aft_nx ?_ | with_reducible refine aft_rt ?_ | with_reducible refine ev_next ?_ | with_reducible refine ev_ifS ?_ | with_reducible refine ev_par ?_ | with_reducible refine ev_asg ?_ | with_reducible refine ev_expr ?_
  | with_reducible refine ev_K ?_ | ((with_reducible apply ev_V); exact rfl) | with_reducible refine ev_bin ?_ | with_reducible refine ev_un ?_ | with_reducible refine ev_nil ?_ | with_reducible refine ev_cons ?_ | with_reducible refine ev_call ?_ | with_reducible refine ev_app ?_ | with_reducible refine ev_appK ?_ | with_reducible refine ev_tup ?_ | with_reducible refine ev_lst ?_ | with_reducible refine ev_cell ?_
  | with_reducible refine ev_bool ?_ | with_reducible refine ev_if ?_ | with_reducible refine ev_and ?_ | with_reducible refine ev_or ?_ | with_reducible refine ev_not ?_ | with_reducible refine ev_andV ?_ | with_reducible refine ev_orV ?_ | with_reducible refine ev_notV ?_ | with_reducible refine ev_chain ?_ | with_reducible refine ev_sl ?_ | with_reducible refine ev_noPart ?_ | with_reducible refine ev_part ?_
  | with_reducible refine exB ?_ | with_reducible refine exI ?_ | with_reducible refine exS ?_ | with_reducible refine ex2 ?_ | with_reducible refine brT ?_ | with_reducible refine brF ?_ | with_reducible refine brNT ?_ | with_reducible refine brNF ?_
  | with_reducible refine br (fun _ => ?_) (fun _ => ?_) | refine brN (fun _ => ?_) (fun _ => ?_)
  | with_reducible refine s_add_ii ?_ | with_reducible refine s_sub ?_ | with_reducible refine s_lt ?_ | with_reducible refine s_le ?_ | with_reducible refine s_gt ?_ | with_reducible refine s_ge ?_ | with_reducible refine s_eq_ii ?_ | with_reducible refine s_ne_ii ?_ | with_reducible refine s_neg ?_
  | with_reducible refine s_eq_ss ?_ | with_reducible refine s_ne_ss ?_ | with_reducible refine s_inS ?_ | with_reducible refine s_len_t ?_ | with_reducible refine s_len_l ?_ | with_reducible refine s_len_c ?_ | with_reducible refine s_abs ?_ | with_reducible refine s_int ?_ | with_reducible refine s_intB ?_ | with_reducible refine s_min2 ?_ | with_reducible refine s_max2 ?_
  | with_reducible refine s_ix_cell (by assumption) rfl ?_ | with_reducible refine s_mod (by omega) ?_ | with_reducible refine s_div (by omega) ?_ | with_reducible refine s_mul_ii (by omega) ?_
  | refine s_isi' (b := true) rfl rfl rfl ?_ | refine s_isi' (b := false) rfl rfl rfl ?_
  | refine ⟨Nat.le_of_ble_eq_true rfl, ?_⟩ | with_reducible refine turn_nx ?_ | with_reducible refine turn_rt ?_ | with_reducible refine ret_rt ?_ | with_reducible refine ret_nx ?_ | with_reducible refine len1 rfl ?_
  | with_reducible refine s_len_s (by first | assumption | omega) ?_ | with_reducible refine s_to_s (by first | decide | omega) (by omega) ?_ | with_reducible refine s_from_s (by first | decide | omega) (by omega) ?_ | with_reducible refine s_to_t (by first | decide | omega) ?_ | with_reducible refine s_from_t (by first | decide | omega) ?_
  | ((with_reducible apply s_ix_t); exact rfl) | ((with_reducible apply s_ix_l); exact rfl)
  | with_reducible refine ev_strM ?_ | with_reducible refine ev_strM0 ?_ | with_reducible refine ev_sub ?_)
/-! ### the law's own looks -/
theorem t_lawSigns {S : Sto} {P : D → Sto → Prop} {v : D} (hS : flatS S) (hv : small v = true) (q : P (.bl (rowB v)) S) : Ev (d__law_signs [v, .int 0, .int 2000] S) P := by
  refine ev_fnT ?_
  unfold m__law_signs
  cases v with
  | str x =>
    obtain ⟨a, e, e2⟩ := str_tl x
    have ha : a.length ≤ 5000 := by rw [← e2]; exact of_decide_eq_true hv
    have q' : P (.bl (decide (a.length ≤ 2000) && lowB a)) S := by rw [← e2]; exact q
    rw [e]
    repeat' trivial
    · refine ev_comp (ev_iterS ?_)
      repeat' trivial
      refine ⟨by show (a.map _).length ≤ _; rw [List.length_map]; omega, comp_mapL (fun c => txt [c]) (fun c => .bl (decide (c ∈ low))) (xs := a) (fun c hc => ⟨_, rfl, ?_⟩) ?_⟩
      · repeat' trivial
      · repeat' trivial
        rw [show (a.map fun c => D.bl (decide (c ∈ low))) = (a.map fun c => decide (c ∈ low)).map D.bl by rw [List.map_map]; rfl]
        refine s_all ⟨rfl, hS, rfl, ?_⟩
        rw [all_map]
        rw [decide_eq_true (by omega), Bool.true_and] at q'
        exact q'
    · rw [decide_eq_false (by omega), Bool.false_and] at q'
      exact ⟨rfl, hS, rfl, q'⟩
    · exfalso; omega
  | cell k => cases hv
  | ty n => cases hv
  | scr xs => cases hv
  | _ => repeat' trivial
theorem low_lt {a : List Nat} (la : lowB a = true) : ∀ c, c ∈ a → c < 128 := fun c hc => by
  unfold lowB at la
  rw [List.all_eq_true] at la
  have h := of_decide_eq_true (la c hc)
  have : ∀ d, d ∈ low → d < 128 := by decide
  exact this c h
theorem pln_txt {a : List Nat} (la : lowB a = true) : pln (txt a) = true := by
  show (a.all fun c => decide (c < 1114112)) = true
  rw [List.all_eq_true]
  intro c hc
  exact decide_eq_true (by have := low_lt la c hc; omega)
theorem eqOk_pr {p : List Nat × List Nat} (l1 : lowB p.1 = true) (l2 : lowB p.2 = true) : eqOk (pr p) = true := by
  show ((pln (txt p.1) && (pln (txt p.2) && true)) && decide (max 0 (max 0 0) + 1 ≤ 60)) = true
  rw [pln_txt l1, pln_txt l2]; rfl
theorem smalls_mem {xs : List D} (h : smalls xs = true) : ∀ {d : D}, d ∈ xs → small d = true := by
  induction xs with
  | nil => intro d hd; cases hd
  | cons x xs ih =>
    intro d hd
    have h' : (small x && smalls xs) = true := h
    rw [Bool.and_eq_true] at h'
    exact (List.mem_cons.mp hd).elim (fun e => e ▸ h'.1) (ih h'.2)
theorem s_inT {S : Sto} {P : D → Sto → Prop} {a : List Nat} {xs : List D} (h1 : eqOk (txt a) = true) (h2 : eqOk (.tup xs) = true) (q : P (.bl (xs.any fun z => deq z (txt a))) S) : Sat (fIn (txt a) (.tup xs) S) P := by
  show Sat (if (eqOk (vw S (txt a)) && eqOk (.tup xs)) = true then some (.bl (xs.any fun z => deq z (vw S (txt a))), S) else none) P
  rw [eqOk_vw h1, h1, h2]
  exact q
theorem deq_txt (a b : List Nat) : deq (txt a) (txt b) = decide (a = b) := by
  show (SX.S a == SX.S b) = _
  exact SX.S_beq_eq
theorem t_lawIsDelay {S : Sto} {P : D → Sto → Prop} {v : D} (hS : flatS S) (hv : small v = true) (hl : ∀ xs, v = .tup xs → xs.length ≤ 1000) (q : P (.bl (delayB v)) S) : Ev (d__law_is_delay [v] S) P := by
  refine ev_fnT ?_
  unfold m__law_is_delay
  cases v with
  | cell k => cases hv
  | ty n => cases hv
  | scr xs => cases hv
  | tup xs =>
    by_cases h2 : xs.length = 2
    · repeat' trivial
      · exfalso; omega
      · refine ev_comp (ev_iterT ?_)
        repeat' trivial
        refine ⟨_, rfl, by omega, ?_⟩
        rw [show xs = xs.map (fun x => x) from (List.map_id' xs).symm]
        refine comp_mapL (fun x => x) (fun x => .bl (rowB x)) (fun x hx => ⟨_, rfl, ?_⟩) ?_
        · repeat' trivial
          refine t_lawSigns hS (smalls_mem hv hx) ⟨rfl, rfl⟩
        · rw [List.map_id']
          repeat' trivial
          rw [show (xs.map fun x => D.bl (rowB x)) = (xs.map rowB).map D.bl by rw [List.map_map]; rfl]
          refine s_all ?_
          rw [all_map]
          match xs, h2, hv, q with
          | [x, y], _, hv, q =>
            rw [delayB_tup] at q
            rw [show [x, y].all rowB = (rowB x && (rowB y && true)) from rfl, Bool.and_true]
            cases hx : rowB x with
            | false =>
              rw [hx] at q
              rw [Bool.false_and]
              repeat' trivial
            | true =>
              cases hy : rowB y with
              | false =>
                rw [hx, hy] at q
                rw [Bool.true_and]
                repeat' trivial
              | true =>
                rw [hx, hy] at q
                obtain ⟨a, rfl, ha, la⟩ := rowB_str hx
                obtain ⟨b, rfl, hb, lb⟩ := rowB_str hy
                have q' : P (.bl (redB a b)) S := q
                rw [Bool.true_and]
                repeat' trivial
                refine s_inT rfl (eqOk_pr (p := (a, b)) la lb) ?_
                rw [show ([txt a, txt b].any fun z => deq z (txt [])) = (deq (txt a) (txt []) || (deq (txt b) (txt []) || false)) from rfl, deq_txt, deq_txt, Bool.or_false]
                cases a with
                | nil =>
                  rw [decide_eq_true rfl, Bool.true_or]
                  repeat' trivial
                | cons c a =>
                  rw [decide_eq_false (by simp), Bool.false_or]
                  cases b with
                  | nil =>
                    rw [decide_eq_true rfl]
                    repeat' trivial
                  | cons d b =>
                    rw [decide_eq_false (by simp)]
                    repeat' trivial
                    refine s_ix_s (a := c :: a) (c := c) (by omega) at0 ?_
                    repeat' trivial
                    refine s_ix_s (a := d :: b) (c := d) (by omega) at0 ?_
                    repeat' trivial
                    exact ⟨rfl, hS, rfl, by simpa [redB] using q'⟩
    · rw [delayB_not h2] at q
      repeat' trivial
      · exfalso; omega
  | _ => repeat' trivial
end Lw

namespace Lw
open PySem PySem.Spec PyProof.Rows L2 Pv
local macro_rules | `(tactic| trivial) => `(tactic| first
  | with_reducible refine ev_seq ?_ | with_reducible refine ev_set ?_ | with_reducible refine ev_ret ?_ | with_reducible refine aft_nx ?_ | with_reducible refine aft_rt ?_ | with_reducible refine ev_next ?_ | with_reducible refine ev_ifS ?_ | with_reducible refine ev_par ?_ | with_reducible refine ev_asg ?_ | with_reducible refine ev_expr ?_
  | with_reducible refine ev_K ?_ | ((with_reducible apply ev_V); exact rfl) | with_reducible refine ev_bin ?_ | with_reducible refine ev_un ?_ | with_reducible refine ev_nil ?_ | with_reducible refine ev_cons ?_ | with_reducible refine ev_call ?_ | with_reducible refine ev_app ?_ | with_reducible refine ev_appK ?_ | with_reducible refine ev_tup ?_ | with_reducible refine ev_lst ?_ | with_reducible refine ev_cell ?_
  | with_reducible refine ev_bool ?_ | with_reducible refine ev_if ?_ | with_reducible refine ev_and ?_ | with_reducible refine ev_or ?_ | with_reducible refine ev_not ?_ | with_reducible refine ev_andV ?_ | with_reducible refine ev_orV ?_ | with_reducible refine ev_notV ?_ | with_reducible refine ev_chain ?_ | with_reducible refine ev_sl ?_ | with_reducible refine ev_noPart ?_ | with_reducible refine ev_part ?_
  | with_reducible refine exB ?_ | with_reducible refine exI ?_ | with_reducible refine exS ?_ | with_reducible refine ex2 ?_ | with_reducible refine brT ?_ | with_reducible refine brF ?_ | with_reducible refine brNT ?_ | with_reducible refine brNF ?_
  | with_reducible refine br (fun _ => ?_) (fun _ => ?_) | refine brN (fun _ => ?_) (fun _ => ?_)
  | with_reducible refine s_add_ii ?_ | with_reducible refine s_sub ?_ | with_reducible refine s_lt ?_ | with_reducible refine s_le ?_ | with_reducible refine s_gt ?_ | with_reducible refine s_ge ?_ | with_reducible refine s_eq_ii ?_ | with_reducible refine s_ne_ii ?_ | with_reducible refine s_neg ?_
  | with_reducible refine s_eq_ss ?_ | with_reducible refine s_ne_ss ?_ | with_reducible refine s_inS ?_ | with_reducible refine s_len_t ?_ | with_reducible refine s_len_l ?_ | with_reducible refine s_len_c ?_ | with_reducible refine s_abs ?_ | with_reducible refine s_int ?_ | with_reducible refine s_intB ?_ | with_reducible refine s_min2 ?_ | with_reducible refine s_max2 ?_
  | with_reducible refine s_ix_cell (by assumption) rfl ?_ | with_reducible refine s_mod (by omega) ?_ | with_reducible refine s_div (by omega) ?_ | with_reducible refine s_mul_ii (by omega) ?_
  | refine s_isi' (b := true) rfl rfl rfl ?_ | refine s_isi' (b := false) rfl rfl rfl ?_
  | refine ⟨Nat.le_of_ble_eq_true rfl, ?_⟩ | with_reducible refine turn_nx ?_ | with_reducible refine turn_rt ?_ | with_reducible refine ret_rt ?_ | with_reducible refine ret_nx ?_ | with_reducible refine len1 rfl ?_
  | with_reducible refine s_len_s (by first | assumption | omega) ?_ | with_reducible refine s_to_s (by first | decide | omega) (by omega) ?_ | with_reducible refine s_from_s (by first | decide | omega) (by omega) ?_ | with_reducible refine s_to_t (by first | decide | omega) ?_ | with_reducible refine s_from_t (by first | decide | omega) ?_
  | ((with_reducible apply s_ix_t); exact rfl) | ((with_reducible apply s_ix_l); exact rfl)
  | with_reducible refine ev_strM ?_ | with_reducible refine ev_strM0 ?_ | with_reducible refine ev_sub ?_)
/-! ### bent values -/
mutual
theorem small_cl : ∀ {d : D}, small d = true → clD 0 d = true
  | .non, _ => rfl
  | .bl _, _ => rfl
  | .int _, _ => rfl
  | .str _, _ => rfl
  | .tup xs, h => smalls_cl (xs := xs) h
  | .lst xs, h => smalls_cl (xs := xs) h
  | .cell _, h => by cases h
  | .scr _, h => by cases h
  | .ty _, h => by cases h
theorem smalls_cl : ∀ {xs : List D}, smalls xs = true → clL 0 xs = true
  | [], _ => rfl
  | x :: xs, h => by
    have h' : (small x && smalls xs) = true := h
    rw [Bool.and_eq_true] at h'
    show (clD 0 x && clL 0 xs) = true
    rw [small_cl h'.1, smalls_cl h'.2]; rfl
end
theorem smalls_of {xs : List D} (h : ∀ x, x ∈ xs → small x = true) : smalls xs = true := by
  induction xs with
  | nil => rfl
  | cons x xs ih =>
    show (small x && smalls xs) = true
    rw [h x List.mem_cons_self, ih fun z hz => h z (List.mem_cons_of_mem _ hz)]; rfl
theorem small_txt {a : List Nat} (h : a.length ≤ 5000) : small (txt a) = true := decide_eq_true h
/-- a value that the law may look at -/
def fine (d : D) : Prop := small d = true ∧ ∀ xs, d = .tup xs → xs.length ≤ 1000
theorem fine_txt {a : List Nat} (h : a.length ≤ 5000) : fine (txt a) := ⟨small_txt h, fun xs e => by cases e⟩
theorem t_choose {k : Nat} {n : Int} {S0 S : Sto} {P : D → Sto → Prop} {xs : List D} (h : PS k n S0 S) (hl : 0 < xs.length ∧ xs.length ≤ 1000) (hx : ∀ x, x ∈ xs → fine x) (hn : n ≤ 1000000)
    (q : ∀ (d : D) (S' : Sto), fine d → PS k (n + 1) S0 S' → P d S') : Ev (d__law_of [.cell k, .lst xs] S) P :=
  t_ofL h hl (smalls_cl (smalls_of fun x m => (hx x m).1)) hn fun d S' hd h' => q d S' (hx d hd) h'
theorem s_upper {S : Sto} {P : D → Sto → Prop} {a : List Nat} (hl : a.length ≤ 1000000) (ha : ∀ c, c ∈ a → c < 128) (q : P (txt (a.map PyProof.Rows.up1)) S) : Sat (fUpper (txt a) [] S) P := by
  show Sat (if (SX.S a).length ≤ 1000000 then some (.str (Txt.upper (SX.S a)), S) else none) P
  rw [if_pos (by rw [len_S]; exact hl), SX.upper_S (by rw [List.all_eq_true]; exact fun c hc => decide_eq_true (ha c hc))]
  exact q
theorem t_isInt {S : Sto} {P : D → Sto → Prop} {v : D} (hS : flatS S) (hv : small v = true) (q : P (.bl (match v with | .int _ => true | _ => false)) S) : Ev (d__law_is_int [v] S) P := by
  refine ev_fnT ?_
  unfold m__law_is_int
  cases v with
  | cell k => cases hv
  | ty n => cases hv
  | scr xs => cases hv
  | _ => repeat' trivial
theorem t_bentS {k : Nat} {n : Int} {S0 S : Sto} {P : D → Sto → Prop} {a : List Nat} (f : Nat) (h : PS k n S0 S) (ha : a.length ≤ 4000) (la : lowB a = true) (hn : n ≤ 900000)
    (q : ∀ (d : D) (S' : Sto), fine d → PS k (n + 1) S0 S' → P d S') : Ev (d__law_bent (f + 1) [.cell k, txt a] S) P := by
  have hS := h.fl
  have lt := low_lt la
  refine ev_fnT (m := m__law_bent (fun _ => d__law_bent f) 0) ?_
  unfold m__law_bent
  repeat' trivial
  refine t_isInt hS (small_txt (by omega)) ?_
  repeat' trivial
  · refine s_sl_s (by omega) ?_
    rw [cut_butlast]
    repeat' trivial
    refine s_add_ss (by simp; omega) ?_
    repeat' trivial
    refine s_rev_s (by omega) ?_
    repeat' trivial
    refine s_upper (by omega) lt ?_
    repeat' trivial
    refine t_choose h (by simp) (fun x hx => ?_) (by omega) fun d S' hd h' => ?_
    · simp only [List.mem_cons, List.not_mem_nil, or_false] at hx
      rcases hx with rfl | rfl | rfl | rfl | rfl | rfl
      · exact fine_txt (by simp; omega)
      · exact fine_txt (by simp; omega)
      · exact fine_txt (by simp; omega)
      · exact fine_txt (by simp; omega)
      · exact ⟨rfl, fun xs e => by cases e⟩
      · exact ⟨rfl, fun xs e => by cases e⟩
    · exact ⟨h'.len.trans h.len.symm, h'.fl, small_cl hd.1, q d S' hd h'⟩
  · refine t_choose h (by simp) (fun x hx => ?_) (by omega) fun d S' hd h' => ?_
    · simp only [List.mem_cons, List.not_mem_nil, or_false] at hx
      rcases hx with rfl | rfl | rfl | rfl | rfl | rfl | rfl | rfl
      · exact ⟨rfl, fun xs e => by cases e⟩
      · exact ⟨rfl, fun xs e => by cases e⟩
      · exact ⟨rfl, fun xs e => by cases e⟩
      · exact ⟨rfl, fun xs e => by cases e⟩
      · exact ⟨rfl, fun xs e => by cases e; simp⟩
      · exact ⟨rfl, fun xs e => by cases e; simp⟩
      · exact ⟨rfl, fun xs e => by cases e⟩
      · exact ⟨rfl, fun xs e => by cases e⟩
    · exact ⟨h'.len.trans h.len.symm, h'.fl, small_cl hd.1, q d S' hd h'⟩
end Lw

namespace Lw
open PySem PySem.Spec PyProof.Rows L2 Pv
local macro_rules | `(tactic| trivial) => `(tactic| first
  | with_reducible refine ev_seq ?_ | with_reducible refine ev_set ?_ | with_reducible refine ev_ret ?_ | with_reducible refine aft_nx ?_ | with_reducible refine aft_rt ?_ | with_reducible refine ev_next ?_ | with_reducible refine ev_ifS ?_ | with_reducible refine ev_par ?_ | with_reducible refine ev_asg ?_ | with_reducible refine ev_expr ?_
  | with_reducible refine ev_K ?_ | ((with_reducible apply ev_V); exact rfl) | with_reducible refine ev_bin ?_ | with_reducible refine ev_un ?_ | with_reducible refine ev_nil ?_ | with_reducible refine ev_cons ?_ | with_reducible refine ev_call ?_ | with_reducible refine ev_app ?_ | with_reducible refine ev_appK ?_ | with_reducible refine ev_tup ?_ | with_reducible refine ev_lst ?_ | with_reducible refine ev_cell ?_
  | with_reducible refine ev_bool ?_ | with_reducible refine ev_if ?_ | with_reducible refine ev_and ?_ | with_reducible refine ev_or ?_ | with_reducible refine ev_not ?_ | with_reducible refine ev_andV ?_ | with_reducible refine ev_orV ?_ | with_reducible refine ev_notV ?_ | with_reducible refine ev_chain ?_ | with_reducible refine ev_sl ?_ | with_reducible refine ev_noPart ?_ | with_reducible refine ev_part ?_
  | with_reducible refine exB ?_ | with_reducible refine exI ?_ | with_reducible refine exS ?_ | with_reducible refine ex2 ?_ | with_reducible refine brT ?_ | with_reducible refine brF ?_ | with_reducible refine brNT ?_ | with_reducible refine brNF ?_
  | with_reducible refine br (fun _ => ?_) (fun _ => ?_) | refine brN (fun _ => ?_) (fun _ => ?_)
  | with_reducible refine s_add_ii ?_ | with_reducible refine s_sub ?_ | with_reducible refine s_lt ?_ | with_reducible refine s_le ?_ | with_reducible refine s_gt ?_ | with_reducible refine s_ge ?_ | with_reducible refine s_eq_ii ?_ | with_reducible refine s_ne_ii ?_ | with_reducible refine s_neg ?_
  | with_reducible refine s_eq_ss ?_ | with_reducible refine s_ne_ss ?_ | with_reducible refine s_inS ?_ | with_reducible refine s_len_t ?_ | with_reducible refine s_len_l ?_ | with_reducible refine s_len_c ?_ | with_reducible refine s_abs ?_ | with_reducible refine s_int ?_ | with_reducible refine s_intB ?_ | with_reducible refine s_min2 ?_ | with_reducible refine s_max2 ?_
  | with_reducible refine s_ix_cell (by assumption) rfl ?_ | with_reducible refine s_mod (by omega) ?_ | with_reducible refine s_div (by omega) ?_ | with_reducible refine s_mul_ii (by omega) ?_
  | refine s_isi' (b := true) rfl rfl rfl ?_ | refine s_isi' (b := false) rfl rfl rfl ?_
  | refine ⟨Nat.le_of_ble_eq_true rfl, ?_⟩ | with_reducible refine turn_nx ?_ | with_reducible refine turn_rt ?_ | with_reducible refine ret_rt ?_ | with_reducible refine ret_nx ?_ | with_reducible refine len1 rfl ?_
  | with_reducible refine s_len_s (by first | assumption | omega) ?_ | with_reducible refine s_to_s (by first | decide | omega) (by omega) ?_ | with_reducible refine s_from_s (by first | decide | omega) (by omega) ?_ | with_reducible refine s_to_t (by first | decide | omega) ?_ | with_reducible refine s_from_t (by first | decide | omega) ?_
  | ((with_reducible apply s_ix_t); exact rfl) | ((with_reducible apply s_ix_l); exact rfl)
  | with_reducible refine s_rev_t ?_ | with_reducible refine s_list_t ?_ | with_reducible refine s_list_l ?_ | (with_reducible apply s_add_tt; exact Nat.le_of_ble_eq_true rfl)
  | with_reducible refine ev_strM ?_ | with_reducible refine ev_strM0 ?_ | with_reducible refine ev_sub ?_)
theorem fine_pr {a b : List Nat} (ha : a.length ≤ 5000) (hb : b.length ≤ 5000) : fine (pr (a, b)) := ⟨small_pr ha hb, fun xs e => by cases e; simp⟩
theorem t_bentP {k : Nat} {n : Int} {S0 S : Sto} {P : D → Sto → Prop} {a b : List Nat} (f : Nat) (h : PS k n S0 S) (h1 : a.length ≤ 2000) (h2 : b.length ≤ 2000) (l1 : lowB a = true) (l2 : lowB b = true) (hn : n ≤ 890000)
    (q : ∀ (d : D) (S' : Sto), fine d → PS k (n + 3) S0 S' → P d S') : Ev (d__law_bent (f + 2) [.cell k, .tup [txt a, txt b]] S) P := by
  have hS := h.fl
  refine ev_fnT (m := m__law_bent (fun _ => d__law_bent (f + 1)) 0) ?_
  unfold m__law_bent
  have e1 : eqOk (.tup [txt a, txt b]) = true := eqOk_pr (p := (a, b)) l1 l2
  have sa : small (txt a) = true := small_txt (by omega)
  have sb : small (txt b) = true := small_txt (by omega)
  have fin : ∀ (d : D) (S' : Sto), fine d → PS k (n + 3) S0 S' → S'.length = S.length ∧ flatS S' ∧ clD 0 d = true ∧ P d S' := fun d S' hd h' => ⟨h'.len.trans h.len.symm, h'.fl, small_cl hd.1, q d S' hd h'⟩
  have fs : ∀ xs : List D, xs.length ≤ 1000 → (∀ x, x ∈ xs → small x = true) → fine (.tup xs) := fun xs hl hx => ⟨smalls_of hx, fun ys e => by cases e; exact hl⟩
  have fl : ∀ xs : List D, (∀ x, x ∈ xs → small x = true) → fine (.lst xs) := fun xs hx => ⟨smalls_of hx, fun ys e => by cases e⟩
  repeat' trivial
  refine s_ne_D e1 rfl ?_
  rw [show deq (.tup [txt a, txt b]) (.tup []) = false from rfl]
  repeat' trivial
  refine t_take h ⟨by show (0 : Int) < 2; decide, by show (2 : Int) < _; decide⟩ (by omega) fun r S1 r0 r1 h1' => ?_
  repeat' trivial
  refine t_take h1' (by decide) (by omega) fun r' S2 r0' r1' h2' => ?_
  have hr : r = 0 ∨ r = 1 := by have : r < 2 := r1; omega
  rcases hr with rfl | rfl
  · repeat' trivial
    · refine t_choose h2' ⟨by show 0 < 4; decide, by show 4 ≤ 1000; decide⟩ (fun x hx => ?_) (by omega) fun d S' hd h' => fin d S' hd (h'.up (by omega))
      simp only [List.mem_cons, List.not_mem_nil, or_false] at hx
      rcases hx with rfl | rfl | rfl | rfl
      · refine fl _ (fun x hx => ?_)
        simp only [List.mem_cons, List.not_mem_nil, or_false] at hx
        rcases hx with rfl | rfl <;> assumption
      · refine fs _ (Nat.le_of_ble_eq_true rfl) (fun x hx => ?_)
        have hx : x ∈ [txt b] := hx
        simp only [List.mem_cons, List.not_mem_nil, or_false] at hx
        subst hx; assumption
      · refine fs _ (Nat.le_of_ble_eq_true rfl) (fun x hx => ?_)
        have hx : x ∈ [txt a, txt b, txt a] := hx
        simp only [List.mem_cons, List.not_mem_nil, or_false] at hx
        rcases hx with rfl | rfl | rfl <;> assumption
      · refine fs _ (Nat.le_of_ble_eq_true rfl) (fun x hx => ?_)
        have hx : x ∈ [txt b, txt a] := hx
        simp only [List.mem_cons, List.not_mem_nil, or_false] at hx
        rcases hx with rfl | rfl <;> assumption
    · refine t_bentS f h2' (by omega) l1 (by omega) fun d S' hd h' => ?_
      repeat' trivial
      refine fin _ _ (fs _ (Nat.le_of_ble_eq_true rfl) (fun x hx => ?_)) (h'.up (by omega))
      have hx : x ∈ [d, txt b] := hx
      simp only [List.mem_cons, List.not_mem_nil, or_false] at hx
      rcases hx with rfl | rfl
      · exact hd.1
      · assumption
  · repeat' trivial
    · refine t_choose h2' ⟨by show 0 < 4; decide, by show 4 ≤ 1000; decide⟩ (fun x hx => ?_) (by omega) fun d S' hd h' => fin d S' hd (h'.up (by omega))
      simp only [List.mem_cons, List.not_mem_nil, or_false] at hx
      rcases hx with rfl | rfl | rfl | rfl
      · refine fl _ (fun x hx => ?_)
        simp only [List.mem_cons, List.not_mem_nil, or_false] at hx
        rcases hx with rfl | rfl <;> assumption
      · refine fs _ (Nat.le_of_ble_eq_true rfl) (fun x hx => ?_)
        have hx : x ∈ [txt a] := hx
        simp only [List.mem_cons, List.not_mem_nil, or_false] at hx
        subst hx; assumption
      · refine fs _ (Nat.le_of_ble_eq_true rfl) (fun x hx => ?_)
        have hx : x ∈ [txt a, txt b, txt a] := hx
        simp only [List.mem_cons, List.not_mem_nil, or_false] at hx
        rcases hx with rfl | rfl | rfl <;> assumption
      · refine fs _ (Nat.le_of_ble_eq_true rfl) (fun x hx => ?_)
        have hx : x ∈ [txt b, txt a] := hx
        simp only [List.mem_cons, List.not_mem_nil, or_false] at hx
        rcases hx with rfl | rfl <;> assumption
    · refine t_bentS f h2' (by omega) l2 (by omega) fun d S' hd h' => ?_
      repeat' trivial
      refine fin _ _ (fs _ (Nat.le_of_ble_eq_true rfl) (fun x hx => ?_)) (h'.up (by omega))
      have hx : x ∈ [txt a, d] := hx
      simp only [List.mem_cons, List.not_mem_nil, or_false] at hx
      rcases hx with rfl | rfl
      · assumption
      · exact hd.1
end Lw

namespace Lw
open PySem PySem.Spec PyProof.Rows L2 Pv
local macro_rules | `(tactic| trivial) => `(tactic| first
  | with_reducible refine ev_seq ?_ | with_reducible refine ev_set ?_ | with_reducible refine ev_ret ?_ | with_reducible refine aft_nx ?_ | with_reducible refine aft_rt ?_ | with_reducible refine ev_next ?_ | with_reducible refine ev_ifS ?_ | with_reducible refine ev_par ?_ | with_reducible refine ev_asg ?_ | with_reducible refine ev_expr ?_
  | with_reducible refine ev_K ?_ | ((with_reducible apply ev_V); exact rfl) | with_reducible refine ev_bin ?_ | with_reducible refine ev_un ?_ | with_reducible refine ev_nil ?_ | with_reducible refine ev_cons ?_ | with_reducible refine ev_call ?_ | with_reducible refine ev_app ?_ | with_reducible refine ev_appK ?_ | with_reducible refine ev_tup ?_ | with_reducible refine ev_lst ?_ | with_reducible refine ev_cell ?_
  | with_reducible refine ev_bool ?_ | with_reducible refine ev_if ?_ | with_reducible refine ev_and ?_ | with_reducible refine ev_or ?_ | with_reducible refine ev_not ?_ | with_reducible refine ev_andV ?_ | with_reducible refine ev_orV ?_ | with_reducible refine ev_notV ?_ | with_reducible refine ev_chain ?_ | with_reducible refine ev_sl ?_ | with_reducible refine ev_noPart ?_ | with_reducible refine ev_part ?_
  | with_reducible refine exB ?_ | with_reducible refine exI ?_ | with_reducible refine exS ?_ | with_reducible refine ex2 ?_ | with_reducible refine brT ?_ | with_reducible refine brF ?_ | with_reducible refine brNT ?_ | with_reducible refine brNF ?_
  | with_reducible refine br (fun _ => ?_) (fun _ => ?_) | refine brN (fun _ => ?_) (fun _ => ?_)
  | with_reducible refine s_add_ii ?_ | with_reducible refine s_sub ?_ | with_reducible refine s_lt ?_ | with_reducible refine s_le ?_ | with_reducible refine s_gt ?_ | with_reducible refine s_ge ?_ | with_reducible refine s_eq_ii ?_ | with_reducible refine s_ne_ii ?_ | with_reducible refine s_neg ?_
  | with_reducible refine s_eq_ss ?_ | with_reducible refine s_ne_ss ?_ | with_reducible refine s_inS ?_ | with_reducible refine s_len_t ?_ | with_reducible refine s_len_l ?_ | with_reducible refine s_len_c ?_ | with_reducible refine s_abs ?_ | with_reducible refine s_int ?_ | with_reducible refine s_intB ?_ | with_reducible refine s_min2 ?_ | with_reducible refine s_max2 ?_
  | with_reducible refine s_ix_cell (by assumption) rfl ?_ | with_reducible refine s_mod (by omega) ?_ | with_reducible refine s_div (by omega) ?_ | with_reducible refine s_mul_ii (by omega) ?_
  | refine s_isi' (b := true) rfl rfl rfl ?_ | refine s_isi' (b := false) rfl rfl rfl ?_
  | refine ⟨Nat.le_of_ble_eq_true rfl, ?_⟩ | with_reducible refine turn_nx ?_ | with_reducible refine turn_rt ?_ | with_reducible refine ret_rt ?_ | with_reducible refine ret_nx ?_ | with_reducible refine len1 rfl ?_
  | with_reducible refine s_len_s (by first | assumption | omega) ?_ | with_reducible refine s_to_s (by first | decide | omega) (by omega) ?_ | with_reducible refine s_from_s (by first | decide | omega) (by omega) ?_ | with_reducible refine s_to_t (by first | decide | omega) ?_ | with_reducible refine s_from_t (by first | decide | omega) ?_
  | ((with_reducible apply s_ix_t); exact rfl) | ((with_reducible apply s_ix_l); exact rfl)
  | with_reducible refine s_rev_t ?_ | with_reducible refine s_list_t ?_ | with_reducible refine s_list_l ?_ | (with_reducible apply s_add_tt; exact Nat.le_of_ble_eq_true rfl)
  | with_reducible refine ev_strM ?_ | with_reducible refine ev_strM0 ?_ | with_reducible refine ev_sub ?_)
/-! ### what is struck, as words -/
theorem strike_app : ∀ (a b l r : List Nat), strike ((strike a b).1 ++ l) ((strike a b).2 ++ r) = strike (a ++ l) (b ++ r)
  | [], b, l, r => by simp [strike]
  | x :: a, [], l, r => by simp [strike]
  | x :: a, y :: b, l, r => by
    by_cases h : x = y
    · have e1 : strike (x :: a) (y :: b) = strike a b := by rw [strike, if_pos h]
      have e2 : strike (x :: a ++ l) (y :: b ++ r) = strike (a ++ l) (b ++ r) := by
        rw [List.cons_append, List.cons_append, strike, if_pos h]
      rw [e1, e2]
      exact strike_app a b l r
    · have e1 : strike (x :: a) (y :: b) = (x :: a, y :: b) := by rw [strike, if_neg h]
      rw [e1]
theorem strike_parts (u v : List Nat) : ∃ p, u = p ++ (strike u v).1 ∧ v = p ++ (strike u v).2 := by
  rw [strike_lcp]
  refine ⟨u.take (lcp u v), (List.take_append_drop _ _).symm, ?_⟩
  have : ∀ u v : List Nat, u.take (lcp u v) = v.take (lcp u v) := by
    intro u
    induction u with
    | nil => intro v; simp [lcp]
    | cons x u ih =>
      intro v
      cases v with
      | nil => simp [lcp]
      | cons y v =>
        unfold lcp
        by_cases h : x = y
        · rw [if_pos h, List.take_succ_cons, List.take_succ_cons, ih v, h]
        · rw [if_neg h]; rfl
  rw [this]
  exact (List.take_append_drop _ _).symm
theorem two_ways {a a' l p p' s : List Nat} (h : a ++ l = p ++ s) (h' : a' ++ l = p' ++ s) : (∃ w, l = w ++ s ∧ p = a ++ w ∧ p' = a' ++ w) ∨ (∃ w, s = w ++ l ∧ a = p ++ w ∧ a' = p' ++ w) := by
  rcases List.append_eq_append_iff.mp h with ⟨w, e1, e2⟩ | ⟨w, e1, e2⟩
  · refine .inl ⟨w, e2, e1, ?_⟩
    rw [e2, ← List.append_assoc] at h'
    exact (List.append_cancel_right h').symm
  · refine .inr ⟨w, e2, e1, ?_⟩
    rw [e2, ← List.append_assoc] at h'
    exact List.append_cancel_right h'
theorem red_pre {a b w1 w2 : List Nat} (h : redB a b = true) (e : a ++ w1 = b ++ w2) : a = [] ∨ b = [] := by
  cases a with
  | nil => exact .inl rfl
  | cons x a =>
    cases b with
    | nil => exact .inr rfl
    | cons y b =>
      simp only [List.cons_append, List.cons.injEq] at e
      simp [redB, e.1] at h
theorem strike_inj {a b a' b' l r : List Nat} (h : redB a b = true) (h' : redB a' b' = true) (e : strike (a ++ l) (b ++ r) = strike (a' ++ l) (b' ++ r)) : a = a' ∧ b = b' := by
  obtain ⟨p, u1, v1⟩ := strike_parts (a ++ l) (b ++ r)
  obtain ⟨p', u2, v2⟩ := strike_parts (a' ++ l) (b' ++ r)
  rw [← e] at u2 v2
  generalize (strike (a ++ l) (b ++ r)).1 = s at u1 u2
  generalize (strike (a ++ l) (b ++ r)).2 = t at v1 v2
  rcases two_ways u1 u2 with ⟨w, -, x1, x2⟩ | ⟨w, -, x1, x2⟩ <;> rcases two_ways v1 v2 with ⟨w2, -, y1, y2⟩ | ⟨w2, -, y1, y2⟩
  · have e1 : a ++ w = b ++ w2 := x1.symm.trans y1
    have e2 : a' ++ w = b' ++ w2 := x2.symm.trans y2
    rcases red_pre h e1 with rfl | rfl
    · rw [List.nil_append] at e1
      subst e1
      rw [← List.append_assoc] at e2
      have e3 := List.append_cancel_right e2
      rcases red_pre (w1 := b) (w2 := []) h' (by rw [List.append_nil]; exact e3) with rfl | rfl
      · exact ⟨rfl, by rw [← e3, List.nil_append]⟩
      · have := List.append_eq_nil_iff.mp e3
        exact ⟨this.1.symm, this.2⟩
    · rw [List.nil_append] at e1
      subst e1
      rw [← List.append_assoc] at e2
      have e3 := List.append_cancel_right e2
      rcases red_pre (w1 := []) (w2 := a) h' (by rw [List.append_nil]; exact e3) with rfl | rfl
      · have := List.append_eq_nil_iff.mp e3.symm
        exact ⟨this.2, this.1.symm⟩
      · exact ⟨by rw [e3, List.nil_append], rfl⟩
  · have z1 : a ++ (w ++ w2) = b ++ [] := by rw [List.append_nil, y1, x1, List.append_assoc]
    have z2 : a' ++ (w ++ w2) = b' ++ [] := by rw [List.append_nil, y2, x2, List.append_assoc]
    have a0 : a = [] := by
      rcases red_pre h z1 with q | q
      · exact q
      · rw [q] at z1; exact (List.append_eq_nil_iff.mp z1).1
    have a0' : a' = [] := by
      rcases red_pre h' z2 with q | q
      · exact q
      · rw [q] at z2; exact (List.append_eq_nil_iff.mp z2).1
    refine ⟨a0.trans a0'.symm, ?_⟩
    rw [a0, List.nil_append, List.append_nil] at z1
    rw [a0', List.nil_append, List.append_nil] at z2
    exact z1.symm.trans z2
  · have z1 : a ++ [] = b ++ (w2 ++ w) := by rw [List.append_nil, x1, y1, List.append_assoc]
    have z2 : a' ++ [] = b' ++ (w2 ++ w) := by rw [List.append_nil, x2, y2, List.append_assoc]
    have b0 : b = [] := by
      rcases red_pre h z1 with q | q
      · rw [q] at z1; exact (List.append_eq_nil_iff.mp z1.symm).1
      · exact q
    have b0' : b' = [] := by
      rcases red_pre h' z2 with q | q
      · rw [q] at z2; exact (List.append_eq_nil_iff.mp z2.symm).1
      · exact q
    refine ⟨?_, b0.trans b0'.symm⟩
    rw [b0, List.nil_append, List.append_nil] at z1
    rw [b0', List.nil_append, List.append_nil] at z2
    exact z1.trans z2.symm
  · have p0 : ∀ {p w w2 a b : List Nat}, redB a b = true → a = p ++ w → b = p ++ w2 → p = [] := by
      intro p w w2 a b h e1 e2
      cases p with
      | nil => rfl
      | cons x p => rw [e1, e2] at h; simp [redB] at h
    have q1 := p0 h x1 y1
    have q2 := p0 h' x2 y2
    subst q1 q2
    exact ⟨x1.trans x2.symm, y1.trans y2.symm⟩
theorem strike_self {a b : List Nat} (h : redB a b = true) : strike a b = (a, b) := by
  cases a with
  | nil => rfl
  | cons x a =>
    cases b with
    | nil => rfl
    | cons y b =>
      have : ¬ x = y := by simpa [redB] using h
      rw [strike, if_neg this]
end Lw

namespace Lw
open PySem PySem.Spec PyProof.Rows L2 Pv
theorem s_rev_pr {S : Sto} {P : D → Sto → Prop} {p : List Nat × List Nat} (h : P (pr (p.2, p.1)) S) : Sat (fRev (pr p) S) P := h
theorem s_ix_pr0 {S : Sto} {P : D → Sto → Prop} {p : List Nat × List Nat} (h : P (txt p.1) S) : Sat (fIx (pr p) (.int 0) S) P := h
theorem s_ix_pr1 {S : Sto} {P : D → Sto → Prop} {p : List Nat × List Nat} (h : P (txt p.2) S) : Sat (fIx (pr p) (.int 1) S) P := h
local macro_rules | `(tactic| trivial) => `(tactic| first
  | with_reducible refine ev_seq ?_ | with_reducible refine ev_set ?_ | with_reducible refine ev_ret ?_ | with_reducible refine aft_nx ?_ | with_reducible refine aft_rt ?_ | with_reducible refine ev_next ?_ | with_reducible refine ev_ifS ?_ | with_reducible refine ev_par ?_ | with_reducible refine ev_asg ?_ | with_reducible refine ev_expr ?_
  | with_reducible refine ev_K ?_ | ((with_reducible apply ev_V); exact rfl) | with_reducible refine ev_bin ?_ | with_reducible refine ev_un ?_ | with_reducible refine ev_nil ?_ | with_reducible refine ev_cons ?_ | with_reducible refine ev_call ?_ | with_reducible refine ev_app ?_ | with_reducible refine ev_appK ?_ | with_reducible refine ev_tup ?_ | with_reducible refine ev_lst ?_ | with_reducible refine ev_cell ?_
  | with_reducible refine ev_bool ?_ | with_reducible refine ev_if ?_ | with_reducible refine ev_and ?_ | with_reducible refine ev_or ?_ | with_reducible refine ev_not ?_ | with_reducible refine ev_orV ?_ | with_reducible refine ev_notV ?_ | with_reducible refine ev_chain ?_ | with_reducible refine ev_sl ?_ | with_reducible refine ev_noPart ?_ | with_reducible refine ev_part ?_
  | with_reducible refine exB ?_ | with_reducible refine exI ?_ | with_reducible refine exS ?_ | with_reducible refine ex2 ?_ | with_reducible refine brT ?_ | with_reducible refine brF ?_ | with_reducible refine brNT ?_ | with_reducible refine brNF ?_
  | with_reducible refine br (fun _ => ?_) (fun _ => ?_)
  | with_reducible refine s_add_ii ?_ | with_reducible refine s_sub ?_ | with_reducible refine s_lt ?_ | with_reducible refine s_le ?_ | with_reducible refine s_gt ?_ | with_reducible refine s_ge ?_ | with_reducible refine s_eq_ii ?_ | with_reducible refine s_ne_ii ?_ | with_reducible refine s_neg ?_
  | with_reducible refine s_eq_ss ?_ | with_reducible refine s_ne_ss ?_ | with_reducible refine s_inS ?_ | with_reducible refine s_len_t ?_ | with_reducible refine s_len_l ?_ | with_reducible refine s_len_c ?_ | with_reducible refine s_abs ?_ | with_reducible refine s_int ?_ | with_reducible refine s_intB ?_ | with_reducible refine s_min2 ?_ | with_reducible refine s_max2 ?_
  | with_reducible refine s_ix_cell (by assumption) rfl ?_ | with_reducible refine s_mod (by omega) ?_ | with_reducible refine s_div (by omega) ?_ | with_reducible refine s_mul_ii (by omega) ?_
  | with_reducible refine turn_nx ?_ | with_reducible refine turn_rt ?_ | with_reducible refine ret_rt ?_ | with_reducible refine ret_nx ?_ | with_reducible refine len1 rfl ?_
  | with_reducible refine s_len_s (by first | assumption | omega) ?_ | with_reducible refine s_to_s (by first | decide | omega) (by omega) ?_ | with_reducible refine s_from_s (by first | decide | omega) (by omega) ?_ | with_reducible refine s_to_t (by first | decide | omega) ?_ | with_reducible refine s_from_t (by first | decide | omega) ?_
  | ((with_reducible apply s_ix_t); exact rfl) | ((with_reducible apply s_ix_l); exact rfl)
  | with_reducible refine s_rev_t ?_ | with_reducible refine s_list_t ?_ | with_reducible refine s_list_l ?_ | (with_reducible apply s_add_tt; exact Nat.le_of_ble_eq_true rfl)
  | with_reducible refine s_rev_pr ?_ | with_reducible refine s_ix_pr0 ?_ | with_reducible refine s_ix_pr1 ?_
  | with_reducible refine ev_strM ?_ | with_reducible refine ev_strM0 ?_ | with_reducible refine ev_sub ?_
  | ((with_reducible apply brN); all_goals intro _) | ((with_reducible refine And.intro (And.intro ?_ ?_) ?_); (focus exact rfl); (focus exact rfl)) | ((with_reducible refine And.intro ?_ ?_); (focus exact Nat.le_of_ble_eq_true rfl))
  | ((with_reducible refine s_isi' (b := true) ?_ ?_ ?_ ?_); (focus exact rfl); (focus exact rfl); (focus exact rfl)) | ((with_reducible refine s_isi' (b := false) ?_ ?_ ?_ ?_); (focus exact rfl); (focus exact rfl); (focus exact rfl)))
theorem s_ne_same {S : Sto} {P : D → Sto → Prop} {u : Str} (h : P (.bl false) S) : Sat (fNe (.str u) (.str u) S) P := s_ne_st (by rw [decide_eq_true rfl]; exact h)
theorem s_eq_same {S : Sto} {P : D → Sto → Prop} {u : Str} (h : P (.bl true) S) : Sat (fEq (.str u) (.str u) S) P := s_eq_st (by rw [decide_eq_true rfl]; exact h)
theorem ev_andV2 {S : Sto} {ds : En} {ma mb : EM} {P : D → Sto → Prop} (h : Ev (ma ds S) fun x S1 => ∃ b, x = .bl b ∧ Ev (mb ds S1) fun y S2 => ∃ c, y = .bl c ∧ S2 = S1 ∧ P (.bl (b && c)) S1) : Ev (mAndV ma mb ds S) P :=
  ev_andV (h.imp fun x S1 ⟨b, e, h⟩ => ⟨b, e, fun hb => h.imp fun y S2 ⟨c, e2, e3, h⟩ => by subst hb e2 e3; exact h, fun hb => by
    obtain ⟨y, S2, _, c, _, _, h⟩ := h.eq
    subst hb
    exact h⟩)
theorem xy_low {a : List Nat} (h : ∀ c, c ∈ a → c ∈ [120, 121]) : lowB a = true := by
  unfold lowB
  rw [List.all_eq_true]
  intro c hc
  have := h c hc
  simp only [List.mem_cons, List.not_mem_nil, or_false] at this
  rcases this with rfl | rfl <;> rfl
theorem reOk_pr {p : List Nat × List Nat} (h1 : p.1.length ≤ 5000) (h2 : p.2.length ≤ 5000) (l1 : lowB p.1 = true) (l2 : lowB p.2 = true) : reOk (pr p) = true := by
  have e1 := pln_txt l1
  have e2 := pln_txt l2
  show ((pln (txt p.1) && (pln (txt p.2) && true)) && decide (max 0 (max 0 0) + 1 ≤ 60) && decide (10 * (SX.S p.1).length + 2 + 2 + (10 * (SX.S p.2).length + 2 + 2 + 0) + 3 ≤ 16000000)) = true
  rw [e1, e2, len_S, len_S, decide_eq_true (show 10 * p.1.length + 2 + 2 + (10 * p.2.length + 2 + 2 + 0) + 3 ≤ 16000000 by omega)]
  rfl
theorem lowB_app {a b : List Nat} (la : lowB a = true) (lb : lowB b = true) : lowB (a ++ b) = true := by
  unfold lowB at *; rw [List.all_append, la, lb]; rfl
theorem lowB_take {a : List Nat} {n : Nat} (la : lowB a = true) : lowB (a.take n) = true := by
  unfold lowB at *
  rw [List.all_eq_true] at *
  exact fun c hc => la c (List.mem_of_mem_take hc)
theorem deq_pr (u v : List Nat × List Nat) : deq (pr u) (pr v) = decide (u = v) := by
  show (deq (txt u.1) (txt v.1) && (deq (txt u.2) (txt v.2) && true)) = _
  rw [deq_txt, deq_txt, Bool.and_true]
  by_cases h : u = v
  · subst h; simp
  · rw [decide_eq_false h]
    by_cases h1 : u.1 = v.1
    · rw [decide_eq_false (fun h2 => h (Prod.ext h1 h2)), Bool.and_false]
    · rw [decide_eq_false h1, Bool.false_and]

variable {k : Nat} {n N : Int} {S0 S : Sto} {Q : Fl → Sto → Prop} {e0 e1 e2 e3 e4 e5 e6 e7 e8 e9 e10 e11 : Option D}
theorem r14 {vs : List D} (hS : flatS S) (hl : vs.length ≤ 1000) (hv : ∀ v, v ∈ vs → fine v) (q : Q (.rt (.bl true)) S) :
    Ev (m__law_right_14 [e0, e1, e2, e3, e4, e5, e6, e7, e8, some (.lst vs), e10, e11] S) Q := by
  unfold m__law_right_14
  repeat' trivial
  refine ev_comp (ev_iterL ?_)
  repeat' trivial
  refine ⟨vs, rfl, by omega, ?_⟩
  rw [show vs = vs.map (fun x => x) from (List.map_id' vs).symm]
  refine comp_mapL (fun x => x) (fun _ => .bl true) (fun x hx => ⟨_, rfl, ?_⟩) ?_
  · have fx := hv x hx
    repeat' trivial
    refine t_isDelay hS fx.1 ?_
    repeat' trivial
    refine s_repr rfl ?_
    repeat' trivial
    refine t_lawIsDelay hS fx.1 fx.2 ?_
    repeat' trivial
    refine s_repr rfl ?_
    repeat' trivial
    exact ⟨congrArg D.bl (decide_eq_true rfl), rfl⟩
  · rw [List.map_id']
    repeat' trivial
    rw [show (vs.map fun _ => D.bl true) = (vs.map fun _ => true).map D.bl by rw [List.map_map]; rfl]
    refine s_all ?_
    rw [show (vs.map fun _ => true).all id = true by rw [List.all_map]; simp]
    exact q
theorem r13 {a : List Nat} {p : List Nat × List Nat} (h : PS k n S0 S) (hn : n ≤ 800000) (hN : n + 12 ≤ N) (ha : a.length ≤ 100) (la : lowB a = true) (h1 : p.1.length ≤ 100) (h2 : p.2.length ≤ 100) (l1 : lowB p.1 = true) (l2 : lowB p.2 = true)
    (q : ∀ S', PS k N S0 S' → Q (.rt (.bl true)) S') :
    Ev (m__law_right_13 [some (.cell k), some (txt a), e2, some (pr p), e4, e5, e6, e7, e8, e9, e10, e11] S) Q := by
  unfold m__law_right_13 pr
  have z : ∀ c : Nat, fine (txt (List.replicate c [120]).flatten) ↔ (List.replicate c [120]).flatten.length ≤ 5000 := fun c => ⟨fun h => of_decide_eq_true h.1, fun h => fine_txt h⟩
  repeat' trivial
  refine s_add_ss (by simp; omega) ?_
  repeat' trivial
  refine s_add_ss (by simp; omega) ?_
  repeat' trivial
  refine ev_comp (ev_rng1 ?_)
  repeat' trivial
  refine ⟨4, rfl, by decide, by decide, ?_⟩
  refine comp_invN (fun i S => PS k (n + 3 * i) S0 S) fine 4 0 (fun x i S hx hi hI => ⟨_, rfl, ?_⟩) (by decide) (by simpa using h) fun ys S' hy hys hi => ?_
  · repeat' trivial
    refine t_bentP 10 hI (by omega) (by omega) l1 l2 (by omega) fun d S' hd hp => ⟨hd, hp.up (by omega)⟩
  · refine s_add_ll (by rw [hy]; exact Nat.le_of_ble_eq_true rfl) ?_
    repeat' trivial
    refine r14 (hi.fl) (by rw [List.length_append, hy]; exact Nat.le_of_ble_eq_true rfl) (fun v hv => ?_) (q S' (hi.up (by simp [rngD]; omega)))
    rcases List.mem_append.mp hv with hv | hv
    · simp only [List.mem_cons, List.not_mem_nil, or_false] at hv
      have sa : small (txt a) = true := small_txt (by omega)
      have s1 : small (txt p.1) = true := small_txt (by omega)
      have s2 : small (txt p.2) = true := small_txt (by omega)
      have fs : ∀ xs : List D, xs.length ≤ 1000 → (∀ x, x ∈ xs → small x = true) → fine (.tup xs) := fun xs hl hx => ⟨smalls_of hx, fun ys e => by cases e; exact hl⟩
      have fl : ∀ xs : List D, (∀ x, x ∈ xs → small x = true) → fine (.lst xs) := fun xs hx => ⟨smalls_of hx, fun ys e => by cases e⟩
      rcases hv with rfl | rfl | rfl | rfl | rfl | rfl | rfl | rfl | rfl | rfl
      · exact fine_pr (by omega) (by omega)
      · refine fl _ fun x hx => ?_
        simp only [List.mem_cons, List.not_mem_nil, or_false] at hx
        rcases hx with rfl | rfl <;> assumption
      · refine fs _ (Nat.le_of_ble_eq_true rfl) fun x hx => ?_
        have hx : x ∈ [txt p.1] := hx
        simp only [List.mem_cons, List.not_mem_nil, or_false] at hx
        subst hx; assumption
      · refine fs _ (Nat.le_of_ble_eq_true rfl) fun x hx => ?_
        have hx : x ∈ [txt p.1, txt p.2, txt []] := hx
        simp only [List.mem_cons, List.not_mem_nil, or_false] at hx
        rcases hx with rfl | rfl | rfl
        · assumption
        · assumption
        · rfl
      · exact fine_pr (by omega) (by omega)
      · exact fine_pr (a := a ++ [120]) (b := a ++ [121]) (by simp; omega) (by simp; omega)
      · exact fine_pr (a := []) (b := (List.replicate 2000 [120]).flatten) (by decide) (by rw [List.length_flatten]; simp)
      · exact fine_pr (a := []) (b := (List.replicate 2001 [120]).flatten) (by decide) (by rw [List.length_flatten]; simp)
      · exact ⟨rfl, fun xs e => by cases e⟩
      · exact ⟨rfl, fun xs e => by cases e⟩
    · exact hys v hv
structure Ctx (a b l r : List Nat) (p : List Nat × List Nat) : Prop where
  ha : a.length ≤ 100
  hb : b.length ≤ 100
  hl : l.length ≤ 100
  hr : r.length ≤ 100
  h1 : p.1.length ≤ 100
  h2 : p.2.length ≤ 100
  la : lowB a = true
  lb : lowB b = true
  ll : lowB l = true
  lr : lowB r = true
  l1 : lowB p.1 = true
  l2 : lowB p.2 = true
  rp : redB p.1 p.2 = true
  ep : ∀ l r, strike (p.1 ++ l) (p.2 ++ r) = strike (a ++ l) (b ++ r)
variable {a b l r : List Nat} {p : List Nat × List Nat}
theorem Ctx.bh (c : Ctx a b l r p) : (strike (p.1 ++ l) (p.2 ++ r)).1.length ≤ 200 ∧ (strike (p.1 ++ l) (p.2 ++ r)).2.length ≤ 200 ∧ lowB (strike (p.1 ++ l) (p.2 ++ r)).1 = true ∧ lowB (strike (p.1 ++ l) (p.2 ++ r)).2 = true := by
  have h := strike_len (p.1 ++ l) (p.2 ++ r)
  have w := strike_low (lowB_app c.l1 c.ll) (lowB_app c.l2 c.lr)
  rw [List.length_append, List.length_append] at h
  have := c.hl; have := c.hr; have := c.h1; have := c.h2
  exact ⟨by omega, by omega, w.1, w.2⟩
theorem r12 {t : List Nat × List Nat} (c : Ctx a b l r p) (h : PS k n S0 S) (hn : n ≤ 800000) (hN : n + 12 ≤ N) (t1 : t.1.length ≤ 100) (t2 : t.2.length ≤ 100) (tl1 : lowB t.1 = true) (tl2 : lowB t.2 = true) (tr : redB t.1 t.2 = true)
    (q : ∀ S', PS k N S0 S' → Q (.rt (.bl true)) S') :
    Ev (m__law_right_12 [some (.cell k), some (txt a), e2, some (pr p), e4, some (txt l), some (txt r), some (pr (strike (p.1 ++ l) (p.2 ++ r))), some (pr t), e9, e10, e11] S) Q := by
  obtain ⟨b1, b2, b3, b4⟩ := c.bh
  have := c.hl; have := c.hr
  have w := strike_low (lowB_app tl1 c.ll) (lowB_app tl2 c.lr)
  unfold m__law_right_12
  repeat' trivial
  refine t_delayThen (p := t) h.fl (by omega) (by omega) ⟨tl1, tl2⟩ c.ll c.lr tr ?_
  repeat' trivial
  refine s_eq_D (eqOk_pr w.1 w.2) (eqOk_pr b3 b4) ?_
  rw [deq_pr]
  repeat' trivial
  refine s_eq_D (eqOk_pr tl1 tl2) (eqOk_pr c.l1 c.l2) ?_
  rw [deq_pr]
  have e : decide (strike (t.1 ++ l) (t.2 ++ r) = strike (p.1 ++ l) (p.2 ++ r)) = decide (t = p) := by
    by_cases h : t = p
    · subst h; simp
    · rw [decide_eq_false h, decide_eq_false fun z => ?_]
      have := strike_inj tr c.rp z
      exact h (Prod.ext this.1 this.2)
  rw [e]
  refine s_ne_D rfl rfl ?_
  rw [show deq (.bl (decide (t = p))) (.bl (decide (t = p))) = true from by show (decide (t = p) == decide (t = p)) = true; simp]
  repeat' trivial
  exact r13 h hn hN c.ha c.la c.h1 c.h2 c.l1 c.l2 q
theorem r11 (c : Ctx a b l r p) (h : PS k n S0 S) (hn : n ≤ 700000) (hN : n + 30 ≤ N)
    (q : ∀ S', PS k N S0 S' → Q (.rt (.bl true)) S') :
    Ev (m__law_right_11 [some (.cell k), some (txt a), e2, some (pr p), e4, some (txt l), some (txt r), some (pr (strike (p.1 ++ l) (p.2 ++ r))), e8, e9, e10, e11] S) Q := by
  unfold m__law_right_11
  repeat' trivial
  refine t_row h (by simp) (by decide) (by decide) (by omega) fun x S1 x1 x2 hx => ?_
  repeat' trivial
  refine t_row hx (by simp) (by decide) (by decide) (by omega) fun y S2 y1 y2 hy => ?_
  repeat' trivial
  refine t_struck hy.fl (by omega) (by omega) ?_
  have hh := strike_len x y
  have w := strike_low (xy_low x2) (xy_low y2)
  repeat' trivial
  exact r12 c hy (by omega) (by omega) (by omega) (by omega) w.1 w.2 (strike_red x y) q
theorem r10 (c : Ctx a b l r p) (h : PS k n S0 S) (hn : n ≤ 700000) (hN : n + 30 ≤ N)
    (q : ∀ S', PS k N S0 S' → Q (.rt (.bl true)) S') :
    Ev (m__law_right_10 [some (.cell k), some (txt a), e2, some (pr p), some (.bl (partedB p)), some (txt l), some (txt r), some (pr (strike (p.1 ++ l) (p.2 ++ r))), e8, e9, e10, e11] S) Q := by
  have key := r11 (e2 := e2) (e4 := some (.bl (partedB p))) (e8 := e8) (e9 := e9) (e10 := e10) (e11 := e11) c h hn hN q
  unfold m__law_right_10
  repeat' trivial
  cases e : partedB p with
  | false =>
    rw [e] at key
    repeat' trivial
  | true =>
    rw [e] at key
    have e' : (!decide (p.1 = []) && !decide (p.2 = [])) = true := e
    rw [Bool.and_eq_true, Bool.not_eq_true', Bool.not_eq_true', decide_eq_false_iff_not, decide_eq_false_iff_not] at e'
    have ee : strike (p.1 ++ l) (p.2 ++ r) = (p.1 ++ l, p.2 ++ r) := by
      apply strike_self
      have rp := c.rp
      cases q1 : p.1 with
      | nil => exact absurd q1 e'.1
      | cons x u =>
        cases q2 : p.2 with
        | nil => exact absurd q2 e'.2
        | cons y v =>
          rw [q1, q2] at rp
          exact rp
    have n1 : ¬ (strike (p.1 ++ l) (p.2 ++ r)).1 = [] := by rw [ee]; exact fun z => e'.1 (List.append_eq_nil_iff.mp z).1
    have n2 : ¬ (strike (p.1 ++ l) (p.2 ++ r)).2 = [] := by rw [ee]; exact fun z => e'.2 (List.append_eq_nil_iff.mp z).1
    repeat' trivial
    rw [decide_eq_false n1]
    repeat' trivial
    rw [decide_eq_false n2]
    repeat' trivial
theorem r9 (c : Ctx a b l r p) (h : PS k n S0 S) (hn : n ≤ 700000) (hN : n + 30 ≤ N)
    (q : ∀ S', PS k N S0 S' → Q (.rt (.bl true)) S') :
    Ev (m__law_right_9 [some (.cell k), some (txt a), some (txt b), some (pr p), some (.bl (partedB p)), some (txt l), some (txt r), some (pr (strike (p.1 ++ l) (p.2 ++ r))), e8, e9, e10, e11] S) Q := by
  obtain ⟨b1, b2, b3, b4⟩ := c.bh
  have reb := reOk_pr (p := strike (p.1 ++ l) (p.2 ++ r)) (by omega) (by omega) b3 b4
  have eqb := eqOk_pr b3 b4
  have := c.ha; have := c.hb; have := c.hl; have := c.hr; have := c.h1; have := c.h2
  have key := r10 (e2 := some (txt b)) (e8 := e8) (e9 := e9) (e10 := e10) (e11 := e11) c h hn hN q
  unfold m__law_right_9
  repeat' trivial
  refine s_repr reb ?_
  repeat' trivial
  refine s_add_ss (by omega) ?_
  repeat' trivial
  refine s_add_ss (by omega) ?_
  repeat' trivial
  refine t_struck h.fl (by rw [List.length_append]; omega) (by rw [List.length_append]; omega) ?_
  repeat' trivial
  refine s_repr reb ?_
  repeat' trivial
  refine s_add_ss (by omega) ?_
  repeat' trivial
  refine s_add_ss (by omega) ?_
  repeat' trivial
  refine t_delayOf h.fl (by rw [List.length_append]; omega) (lowB_app c.la c.ll) (by rw [List.length_append]; omega) (lowB_app c.lb c.lr) ?_
  rw [← c.ep]
  repeat' trivial
  refine s_ne_D eqb eqb ?_
  rw [deq_pr, decide_eq_true rfl]
  repeat' trivial
end Lw

namespace Lw
open PySem PySem.Spec PyProof.Rows L2 Pv
local macro_rules | `(tactic| trivial) => `(tactic| first
  | with_reducible refine ev_seq ?_ | with_reducible refine ev_set ?_ | with_reducible refine ev_ret ?_ | with_reducible refine aft_nx ?_ | with_reducible refine aft_rt ?_ | with_reducible refine ev_next ?_ | with_reducible refine ev_ifS ?_ | with_reducible refine ev_par ?_ | with_reducible refine ev_asg ?_ | with_reducible refine ev_expr ?_
  | with_reducible refine ev_K ?_ | ((with_reducible apply ev_V); exact rfl) | with_reducible refine ev_bin ?_ | with_reducible refine ev_un ?_ | with_reducible refine ev_nil ?_ | with_reducible refine ev_cons ?_ | with_reducible refine ev_call ?_ | with_reducible refine ev_app ?_ | with_reducible refine ev_appK ?_ | with_reducible refine ev_tup ?_ | with_reducible refine ev_lst ?_ | with_reducible refine ev_cell ?_
  | with_reducible refine ev_bool ?_ | with_reducible refine ev_if ?_ | with_reducible refine ev_and ?_ | with_reducible refine ev_or ?_ | with_reducible refine ev_not ?_ | with_reducible refine ev_orV ?_ | with_reducible refine ev_notV ?_ | with_reducible refine ev_chain ?_ | with_reducible refine ev_sl ?_ | with_reducible refine ev_noPart ?_ | with_reducible refine ev_part ?_
  | with_reducible refine exB ?_ | with_reducible refine exI ?_ | with_reducible refine exS ?_ | with_reducible refine ex2 ?_ | with_reducible refine brT ?_ | with_reducible refine brF ?_ | with_reducible refine brNT ?_ | with_reducible refine brNF ?_
  | with_reducible refine br (fun _ => ?_) (fun _ => ?_)
  | with_reducible refine s_add_ii ?_ | with_reducible refine s_sub ?_ | with_reducible refine s_lt ?_ | with_reducible refine s_le ?_ | with_reducible refine s_gt ?_ | with_reducible refine s_ge ?_ | with_reducible refine s_eq_ii ?_ | with_reducible refine s_ne_ii ?_ | with_reducible refine s_neg ?_
  | with_reducible refine s_eq_ss ?_ | with_reducible refine s_ne_ss ?_ | with_reducible refine s_inS ?_ | with_reducible refine s_len_t ?_ | with_reducible refine s_len_l ?_ | with_reducible refine s_len_c ?_ | with_reducible refine s_abs ?_ | with_reducible refine s_int ?_ | with_reducible refine s_intB ?_ | with_reducible refine s_min2 ?_ | with_reducible refine s_max2 ?_
  | with_reducible refine s_ix_cell (by assumption) rfl ?_ | with_reducible refine s_mod (by omega) ?_ | with_reducible refine s_div (by omega) ?_ | with_reducible refine s_mul_ii (by omega) ?_
  | with_reducible refine turn_nx ?_ | with_reducible refine turn_rt ?_ | with_reducible refine ret_rt ?_ | with_reducible refine ret_nx ?_ | with_reducible refine len1 rfl ?_
  | with_reducible refine s_len_s (by first | assumption | omega) ?_ | with_reducible refine s_to_s (by first | decide | omega) (by omega) ?_ | with_reducible refine s_from_s (by first | decide | omega) (by omega) ?_ | with_reducible refine s_to_t (by first | decide | omega) ?_ | with_reducible refine s_from_t (by first | decide | omega) ?_
  | ((with_reducible apply s_ix_t); exact rfl) | ((with_reducible apply s_ix_l); exact rfl)
  | with_reducible refine s_rev_t ?_ | with_reducible refine s_list_t ?_ | with_reducible refine s_list_l ?_ | (with_reducible apply s_add_tt; exact Nat.le_of_ble_eq_true rfl)
  | with_reducible refine s_rev_pr ?_ | with_reducible refine s_ix_pr0 ?_ | with_reducible refine s_ix_pr1 ?_
  | with_reducible refine ev_strM ?_ | with_reducible refine ev_strM0 ?_ | with_reducible refine ev_sub ?_
  | ((with_reducible apply brN); all_goals intro _) | ((with_reducible refine And.intro (And.intro ?_ ?_) ?_); (focus exact rfl); (focus exact rfl)) | ((with_reducible refine And.intro ?_ ?_); (focus exact Nat.le_of_ble_eq_true rfl))
  | ((with_reducible refine s_isi' (b := true) ?_ ?_ ?_ ?_); (focus exact rfl); (focus exact rfl); (focus exact rfl)) | ((with_reducible refine s_isi' (b := false) ?_ ?_ ?_ ?_); (focus exact rfl); (focus exact rfl); (focus exact rfl)))

variable {k : Nat} {n N : Int} {S0 S : Sto} {Q : Fl → Sto → Prop} {e0 e1 e2 e3 e4 e5 e6 e7 e8 e9 e10 e11 : Option D} {a b l r : List Nat} {p : List Nat × List Nat}
theorem r8 (c : Ctx a b l r p) (h : PS k n S0 S) (hn : n ≤ 700000) (hN : n + 30 ≤ N)
    (q : ∀ S', PS k N S0 S' → Q (.rt (.bl true)) S') :
    Ev (m__law_right_8 [some (.cell k), some (txt a), some (txt b), some (pr p), some (.bl (partedB p)), some (txt l), some (txt r), e7, e8, e9, e10, e11] S) Q := by
  have := c.ha; have := c.hb; have := c.hl; have := c.hr; have := c.h1; have := c.h2
  have key := r9 (e8 := e8) (e9 := e9) (e10 := e10) (e11 := e11) c h hn hN q
  unfold m__law_right_8
  repeat' trivial
  refine t_delayThen (p := p) h.fl (by omega) (by omega) ⟨c.l1, c.l2⟩ c.ll c.lr c.rp ?_
  repeat' trivial
/-- the first half's knowledge -/
structure Ctx0 (a b : List Nat) (p : List Nat × List Nat) : Prop where
  ha : a.length ≤ 20
  hb : b.length ≤ 20
  h1 : p.1.length ≤ 20
  h2 : p.2.length ≤ 20
  la : lowB a = true
  lb : lowB b = true
  l1 : lowB p.1 = true
  l2 : lowB p.2 = true
  rp : redB p.1 p.2 = true
  ep : ∀ l r, strike (p.1 ++ l) (p.2 ++ r) = strike (a ++ l) (b ++ r)
theorem r7 (c : Ctx0 a b p) (hl : l.length ≤ 10) (hr : r.length ≤ 10) (ll : lowB l = true) (lr : lowB r = true) (h : PS k n S0 S) (hn : n ≤ 600000) (hN : n + 40 ≤ N)
    (q : ∀ S', PS k N S0 S' → Q (.rt (.bl true)) S') :
    Ev (m__law_right_7 [some (.cell k), some (txt a), some (txt b), some (pr p), some (.bl (partedB p)), some (txt l), some (txt r), e7, e8, e9, e10, e11] S) Q := by
  have := c.ha; have := c.hb; have := c.h1; have := c.h2
  unfold m__law_right_7
  repeat' trivial
  refine s_add_ss (by omega) ?_
  repeat' trivial
  refine s_add_ss (by omega) ?_
  repeat' trivial
  refine s_add_ss (by omega) ?_
  repeat' trivial
  refine t_ofL h ⟨by show 0 < 4; decide, by show 4 ≤ 1000; decide⟩ rfl (by omega) fun d S6 hd6 h6 => ?_
  obtain ⟨l', r', rfl, hl', hr', lowl, lowr⟩ : ∃ l' r', d = .tup [txt l', txt r'] ∧ l'.length ≤ 100 ∧ r'.length ≤ 100 ∧ lowB l' = true ∧ lowB r' = true := by
    simp only [List.mem_cons, List.not_mem_nil, or_false] at hd6
    rcases hd6 with rfl | rfl | rfl | rfl
    · exact ⟨_, _, rfl, by omega, by omega, ll, lr⟩
    · exact ⟨_, _, rfl, by omega, by rw [List.length_append]; omega, ll, lowB_app c.l1 ll⟩
    · exact ⟨_, _, rfl, by rw [List.length_append]; omega, by rw [List.length_append]; omega, lowB_app c.l2 ll, lowB_app c.l1 ll⟩
    · exact ⟨_, _, rfl, by omega, by omega, ll, ll⟩
  refine ev_tupG rfl ?_
  exact r8 ⟨by omega, by omega, hl', hr', by omega, by omega, c.la, c.lb, lowl, lowr, c.l1, c.l2, c.rp, c.ep⟩ h6 (by omega) (by omega) q
theorem r6 (c : Ctx0 a b p) (h : PS k n S0 S) (hn : n ≤ 500000) (hN : n + 60 ≤ N)
    (q : ∀ S', PS k N S0 S' → Q (.rt (.bl true)) S') :
    Ev (m__law_right_6 [some (.cell k), some (txt a), some (txt b), some (pr p), some (.bl (partedB p)), e5, e6, e7, e8, e9, e10, e11] S) Q := by
  unfold m__law_right_6
  repeat' trivial
  refine t_row h (by simp) (by decide) (by decide) (by omega) fun x S1 x1 x2 hx => ?_
  repeat' trivial
  refine t_row hx (by simp) (by decide) (by decide) (by omega) fun y S2 y1 y2 hy => ?_
  repeat' trivial
  exact r7 c (by omega) (by omega) (xy_low x2) (xy_low y2) hy (by omega) (by omega) q
theorem r5 (c : Ctx0 a b p) (h : PS k n S0 S) (hn : n ≤ 500000) (hN : n + 60 ≤ N)
    (q : ∀ S', PS k N S0 S' → Q (.rt (.bl true)) S') :
    Ev (m__law_right_5 [some (.cell k), some (txt a), some (txt b), some (pr p), some (.bl (partedB p)), e5, e6, e7, e8, e9, e10, e11] S) Q := by
  have := c.ha; have := c.hb; have := c.h1; have := c.h2
  have key := r6 (e5 := e5) (e6 := e6) (e7 := e7) (e8 := e8) (e9 := e9) (e10 := e10) (e11 := e11) c h hn hN q
  unfold m__law_right_5
  repeat' trivial
  refine t_parted (a := p.1) (b := p.2) h.fl (small_pr (by omega) (by omega)) (by rw [delayB_pr (by omega) c.l1 (by omega) c.l2]; exact c.rp) ?_
  repeat' trivial
  refine s_repr rfl ?_
  repeat' trivial
  refine s_repr rfl ?_
  repeat' trivial
theorem r4 (c : Ctx0 a b p) (h : PS k n S0 S) (hn : n ≤ 500000) (hN : n + 60 ≤ N)
    (q : ∀ S', PS k N S0 S' → Q (.rt (.bl true)) S') :
    Ev (m__law_right_4 [some (.cell k), some (txt a), some (txt b), some (pr p), e4, e5, e6, e7, e8, e9, e10, e11] S) Q := by
  have key := r5 (e5 := e5) (e6 := e6) (e7 := e7) (e8 := e8) (e9 := e9) (e10 := e10) (e11 := e11) c h hn hN q
  unfold m__law_right_4
  repeat' trivial
  refine ev_andV2 ?_
  repeat' trivial
theorem r3 (c : Ctx0 a b p) (e : p = strike a b) (h : PS k n S0 S) (hn : n ≤ 500000) (hN : n + 60 ≤ N)
    (q : ∀ S', PS k N S0 S' → Q (.rt (.bl true)) S') :
    Ev (m__law_right_3 [some (.cell k), some (txt a), some (txt b), some (pr p), e4, e5, e6, e7, e8, e9, e10, e11] S) Q := by
  have := c.ha; have := c.hb; have := c.h1; have := c.h2
  have key := r4 (e4 := e4) (e5 := e5) (e6 := e6) (e7 := e7) (e8 := e8) (e9 := e9) (e10 := e10) (e11 := e11) c h hn hN q
  have rep : reOk (pr p) = true := reOk_pr (by omega) (by omega) c.l1 c.l2
  have dp : delayB (pr (p.1, p.2)) = true := by rw [delayB_pr (by omega) c.l1 (by omega) c.l2]; exact c.rp
  have sp : small (pr (p.1, p.2)) = true := small_pr (by omega) (by omega)
  unfold m__law_right_3
  repeat' trivial
  refine t_delayOf h.fl (by omega) c.la (by omega) c.lb ?_
  rw [← e]
  repeat' trivial
  refine s_repr rep ?_
  repeat' trivial
  refine s_repr rep ?_
  repeat' trivial
  refine t_swapped (a := p.1) (b := p.2) h.fl sp dp ?_
  repeat' trivial
  refine s_repr (reOk_pr (p := (p.2, p.1)) (by show p.2.length ≤ _; omega) (by show p.1.length ≤ _; omega) c.l2 c.l1) ?_
  repeat' trivial
  refine s_repr (reOk_pr (p := (p.2, p.1)) (by show p.2.length ≤ _; omega) (by show p.1.length ≤ _; omega) c.l2 c.l1) ?_
  repeat' trivial
  refine t_isDelay h.fl sp ?_
  rw [dp]
  repeat' trivial
  refine s_isNot _ _ ?_
  repeat' trivial
theorem r2 (ha : a.length ≤ 20) (hb : b.length ≤ 20) (la : lowB a = true) (lb : lowB b = true) (h : PS k n S0 S) (hn : n ≤ 500000) (hN : n + 60 ≤ N)
    (q : ∀ S', PS k N S0 S' → Q (.rt (.bl true)) S') :
    Ev (m__law_right_2 [some (.cell k), some (txt a), some (txt b), e3, e4, e5, e6, e7, e8, e9, e10, e11] S) Q := by
  have hh := strike_len a b
  have w := strike_low la lb
  have key := r3 (e4 := e4) (e5 := e5) (e6 := e6) (e7 := e7) (e8 := e8) (e9 := e9) (e10 := e10) (e11 := e11) (p := strike a b) ⟨ha, hb, by omega, by omega, la, lb, w.1, w.2, strike_red a b, strike_app a b⟩ rfl h hn hN q
  unfold m__law_right_2
  repeat' trivial
  refine t_struck h.fl (by omega) (by omega) ?_
  repeat' trivial
theorem r1 (ha : a.length ≤ 6) (hb : b.length ≤ 6) (la : lowB a = true) (lb : lowB b = true) (h : PS k n S0 S) (hn : n ≤ 400000) (hN : n + 70 ≤ N)
    (q : ∀ S', PS k N S0 S' → Q (.rt (.bl true)) S') :
    Ev (m__law_right_1 [some (.cell k), some (txt a), some (txt b), e3, e4, e5, e6, e7, e8, e9, e10, e11] S) Q := by
  unfold m__law_right_1
  repeat' trivial
  refine s_add_ss (by omega) ?_
  repeat' trivial
  refine s_add_ss (by rw [List.length_take]; omega) ?_
  repeat' trivial
  refine t_ofL h ⟨by show 0 < 4; decide, by show 4 ≤ 1000; decide⟩ rfl (by omega) fun d S3 hd h3 => ?_
  obtain ⟨b', rfl, hb', lb'⟩ : ∃ b, d = txt b ∧ b.length ≤ 20 ∧ lowB b = true := by
    simp only [List.mem_cons, List.not_mem_nil, or_false] at hd
    rcases hd with rfl | rfl | rfl | rfl
    · exact ⟨_, rfl, by omega, lb⟩
    · exact ⟨_, rfl, by rw [List.length_append]; omega, lowB_app la lb⟩
    · exact ⟨_, rfl, by rw [List.length_append, List.length_take]; omega, lowB_app (lowB_take la) lb⟩
    · exact ⟨_, rfl, by omega, la⟩
  repeat' trivial
  exact r2 (by omega) hb' la lb' h3 (by omega) (by omega) q
theorem t_right {P : D → Sto → Prop} (h : PS k n S0 S) (hn : n ≤ 100000) (q : ∀ S', PS k (n + 100) S0 S' → P (.bl true) S') : Ev (d__law_right [.cell k] S) P := by
  refine ev_fnT ?_
  unfold m__law_right
  repeat' trivial
  refine t_row h (by simp) (by decide) (by decide) (by omega) fun x S1 x1 x2 hx => ?_
  repeat' trivial
  refine t_row hx (by simp) (by decide) (by decide) (by omega) fun y S2 y1 y2 hy => ?_
  repeat' trivial
  refine r1 (N := n + 100) (by omega) (by omega) (xy_low x2) (xy_low y2) hy (by omega) (by omega) fun S' h' => ?_
  exact ⟨h'.len.trans h.len.symm, h'.fl, rfl, q S' h'⟩
end Lw

namespace Lw
open PySem PySem.Spec PyProof.Rows L2 Pv
local macro_rules | `(tactic| trivial) => `(tactic| first
  | with_reducible refine ev_seq ?_ | with_reducible refine ev_set ?_ | with_reducible refine ev_ret ?_ | with_reducible refine aft_nx ?_ | with_reducible refine aft_rt ?_ | with_reducible refine ev_next ?_ | with_reducible refine ev_ifS ?_ | with_reducible refine ev_par ?_ | with_reducible refine ev_asg ?_ | with_reducible refine ev_expr ?_
  | with_reducible refine ev_K ?_ | ((with_reducible apply ev_V); exact rfl) | with_reducible refine ev_bin ?_ | with_reducible refine ev_un ?_ | with_reducible refine ev_nil ?_ | with_reducible refine ev_cons ?_ | with_reducible refine ev_call ?_ | with_reducible refine ev_app ?_ | with_reducible refine ev_appK ?_ | with_reducible refine ev_tup ?_ | with_reducible refine ev_lst ?_ | with_reducible refine ev_cell ?_
  | with_reducible refine ev_bool ?_ | with_reducible refine ev_if ?_ | with_reducible refine ev_and ?_ | with_reducible refine ev_or ?_ | with_reducible refine ev_not ?_ | with_reducible refine ev_orV ?_ | with_reducible refine ev_notV ?_ | with_reducible refine ev_chain ?_ | with_reducible refine ev_sl ?_ | with_reducible refine ev_noPart ?_ | with_reducible refine ev_part ?_
  | with_reducible refine exB ?_ | with_reducible refine exI ?_ | with_reducible refine exS ?_ | with_reducible refine ex2 ?_ | with_reducible refine brT ?_ | with_reducible refine brF ?_ | with_reducible refine brNT ?_ | with_reducible refine brNF ?_
  | with_reducible refine br (fun _ => ?_) (fun _ => ?_)
  | with_reducible refine s_add_ii ?_ | with_reducible refine s_sub ?_ | with_reducible refine s_lt ?_ | with_reducible refine s_le ?_ | with_reducible refine s_gt ?_ | with_reducible refine s_ge ?_ | with_reducible refine s_eq_ii ?_ | with_reducible refine s_ne_ii ?_ | with_reducible refine s_neg ?_
  | with_reducible refine s_eq_ss ?_ | with_reducible refine s_ne_ss ?_ | with_reducible refine s_inS ?_ | with_reducible refine s_len_t ?_ | with_reducible refine s_len_l ?_ | with_reducible refine s_len_c ?_ | with_reducible refine s_abs ?_ | with_reducible refine s_int ?_ | with_reducible refine s_intB ?_ | with_reducible refine s_min2 ?_ | with_reducible refine s_max2 ?_
  | with_reducible refine s_ix_cell (by assumption) rfl ?_ | with_reducible refine s_mod (by omega) ?_ | with_reducible refine s_div (by omega) ?_ | with_reducible refine s_mul_ii (by omega) ?_
  | with_reducible refine turn_nx ?_ | with_reducible refine turn_rt ?_ | with_reducible refine ret_rt ?_ | with_reducible refine ret_nx ?_ | with_reducible refine len1 rfl ?_
  | with_reducible refine s_len_s (by first | assumption | omega) ?_ | with_reducible refine s_to_s (by first | decide | omega) (by omega) ?_ | with_reducible refine s_from_s (by first | decide | omega) (by omega) ?_ | with_reducible refine s_to_t (by first | decide | omega) ?_ | with_reducible refine s_from_t (by first | decide | omega) ?_
  | ((with_reducible apply s_ix_t); exact rfl) | ((with_reducible apply s_ix_l); exact rfl)
  | with_reducible refine s_rev_t ?_ | with_reducible refine s_list_t ?_ | with_reducible refine s_list_l ?_ | (with_reducible apply s_add_tt; exact Nat.le_of_ble_eq_true rfl)
  | with_reducible refine s_rev_pr ?_ | with_reducible refine s_ix_pr0 ?_ | with_reducible refine s_ix_pr1 ?_
  | with_reducible refine ev_strM ?_ | with_reducible refine ev_strM0 ?_ | with_reducible refine ev_sub ?_
  | ((with_reducible apply brN); all_goals intro _) | ((with_reducible refine And.intro (And.intro ?_ ?_) ?_); (focus exact rfl); (focus exact rfl)) | ((with_reducible refine And.intro ?_ ?_); (focus exact Nat.le_of_ble_eq_true rfl))
  | ((with_reducible refine s_isi' (b := true) ?_ ?_ ?_ ?_); (focus exact rfl); (focus exact rfl); (focus exact rfl)) | ((with_reducible refine s_isi' (b := false) ?_ ?_ ?_ ?_); (focus exact rfl); (focus exact rfl); (focus exact rfl)))

theorem ev_fnT0 {P : D → Sto → Prop} {m : SM} {xs : List D} {n : Nat} (h : Ev (m (stD n xs) []) (Ret fun d S1 => clD 0 d = true ∧ P d [])) : Ev (mFnT n m xs []) P := by
  obtain ⟨d, S1, e, hd, p⟩ := (ev_fnK h).eq
  unfold mFnT
  rw [e]
  show Ev (cutM 0 d S1) P
  unfold cutM
  rw [List.take_zero, if_pos ⟨Nat.zero_le _, rfl⟩, fz_cl hd]
  exact p
theorem t_pot {S : Sto} {P : D → Sto → Prop} {ns : List Int} {pl : Int} (hl : ns.length ≤ 63) (h0 : 0 ≤ pl) (h1 : pl < 3) (hp : pl < ns.length ∨ (ns = [] ∧ pl = 0))
    (q : ∀ c, Pot 0 c → P (.cell S.length) (S ++ [c])) : Ev (d__law_pot [.scr (ns.map D.int), .int pl] S) P := by
  refine ev_fnK ?_
  unfold m__law_pot
  have fin : ∀ v : Int, Ev (mSeq (mSet 3 (mBin fMul (mBin fMod (mCall fInt (mCons (mCall fAbs (mCons (mV 2) mNil)) mNil)) (mBin fPow (mBin fPow (mK (.int 10)) (mK (.int 60))) (mK (.int 5)))) (mCall fInt (mCons (mBin fGe (mCall fAbs (mCons (mV 2) mNil)) (mBin fPow (mK (.int 10)) (mK (.int 18)))) mNil))))
      (mSeq (mSet 4 (mBin fMod (mCall fInt (mCons (mV 2) mNil)) (mK (.int 2305843009213693951))))
      (mRet (mCell (mCons (mV 3) (mCons (mBin fMod (mCall fInt (mCons (mBin fAdd (mBin fAdd (mBin fMul (mV 4) (mK (.int 117319))) (mBin fMul (mBin fMul (mK (.int 18417)) (mV 1)) (mV 1))) (mK (.int 5304))) mNil)) (mK (.int 2305843009213693921))) (mCons (mK (.int 0)) mNil)))))) [some (.scr (ns.map D.int)), some (.int pl), some (.int v), none, none] S) (Ret P) := by
    intro v
    repeat' trivial
    refine s_pow ⟨by decide, by decide +kernel⟩ ?_
    repeat' trivial
    refine s_pow ⟨by decide, by decide +kernel⟩ ?_
    repeat' trivial
    refine s_mod (by decide +kernel) ?_
    repeat' trivial
    refine s_pow ⟨by decide, by decide +kernel⟩ ?_
    repeat' trivial
    refine q _ ⟨_, _, _, rfl, ?_, ?_, ?_, by decide, by decide⟩
    · refine Int.mul_nonneg (Int.emod_nonneg _ (by decide +kernel)) ?_
      have bb : ∀ t : Bool, (0 : Int) ≤ if t = true then 1 else 0 := by decide
      exact bb _
    · exact Int.emod_nonneg _ (by decide)
    · have := Int.emod_lt_of_pos (v % 2305843009213693951 * 117319 + 18417 * pl * pl + 5304) (show (0 : Int) < 2305843009213693921 by decide)
      omega
  refine ev_seq (Ev.imp (P := fun fl S1 => ∃ v : Int, fl = .nx [some (.scr (ns.map D.int)), some (.int pl), some (.int v), none, none] ∧ S1 = S) ?_ (fun fl S1 ⟨v, e1, e2⟩ => by subst e1 e2; exact fin v))
  refine ev_set (ev_if ?_)
  repeat' trivial
  · obtain ⟨d, e, hd⟩ := atI_mem (xs := ns.map D.int) (i := pl) h0 (by assumption)
    obtain ⟨v, _, rfl⟩ := List.mem_map.mp hd
    refine s_ix_c e ?_
    exact ⟨v, rfl, rfl⟩
  · rename_i hh
    rw [List.length_map] at hh
    obtain ⟨rfl, rfl⟩ : ns = [] ∧ pl = 0 := hp.resolve_left hh
    refine s_to_c (by decide) ?_
    repeat' trivial
    refine s_sum (ns := []) ?_
    repeat' trivial
    all_goals exact ⟨_, rfl, rfl⟩
theorem t_cells {S : Sto} {P : D → Sto → Prop} {ns : List Int} (hS : flatS S) (hl : ns.length ≤ 63) (q : ∀ n : Nat, 1 ≤ n → n ≤ 3 → (n ≤ ns.length ∨ (ns = [] ∧ n = 1)) → P (.lst (rngD 0 n)) S) : Ev (d__law_cells [.scr (ns.map D.int), .int 3] S) P := by
  refine ev_fnT ?_
  unfold m__law_cells
  refine ev_ret (ev_lrng1 ?_)
  repeat' trivial
  rw [List.length_map]
  refine ⟨⟨by split <;> split <;> omega, by split <;> split <;> omega⟩, ?_⟩
  have key : ∀ n : Nat, clD 0 (.lst (rngD 0 n)) = true := fun n => by
    show clL 0 (rngD 0 n) = true
    unfold rngD
    generalize List.range n = l
    induction l with
    | nil => rfl
    | cons a l ih => show (true && clL 0 _) = true; rw [ih]; rfl
  refine ⟨rfl, hS, key _, q _ ?_ ?_ ?_⟩
  · split <;> split <;> omega
  · split <;> split <;> omega
  · cases ns with
    | nil => right; exact ⟨rfl, by simp⟩
    | cons x ns => left; rw [List.length_cons] at *; split <;> split <;> omega
theorem flat_app {S : Sto} {c : Cl} {n : Int} (h : flatS S) (p : Pot n c) : flatS (S ++ [c]) := by
  unfold flatS clS at *
  rw [List.all_append, h]
  have := p.flat c rfl
  simp only [List.all_cons, List.all_nil, Bool.and_true, Bool.true_and]
  exact this
theorem law_true (ns : List Int) (h : ns.length ≤ 63) : ∃ S, d_law [.scr (ns.map D.int)] [] = .ok (.bl true) S := by
  have key : Ev (d_law [.scr (ns.map D.int)] []) fun d S => d = .bl true := by
    refine ev_fnT0 ?_
    unfold m_law
    refine ev_seq (ev_for (ev_iterL ?_))
    repeat' trivial
    refine t_cells rfl h fun n n1 n3 hn => ?_
    repeat' trivial
    refine ⟨_, rfl, ?_⟩
    have loop : ∀ (xs : List D) (S : Sto) (e1 e2 e3 : Option D), flatS S → (∀ x, x ∈ xs → ∃ pl : Int, x = .int pl ∧ 0 ≤ pl ∧ pl < 3 ∧ (pl < ns.length ∨ (ns = [] ∧ pl = 0))) →
        ∀ Q : Fl → Sto → Prop, (∀ e1 e2 e3 S', Q (.nx [some (.scr (ns.map D.int)), e1, e2, e3]) S') →
        Ev (loopM (mName 1) (mSeq (mSet 2 (mApp 2 (mCons (mV 0) (mCons (mV 1) mNil)) d__law_pot)) (mIfS (mNot (mBool (mCall fAll (mCons (mComp (mRng1 (mCons (mK (.int 6)) mNil)) (bName 3) (mYes) (mApp 1 (mCons (mV 2) mNil) d__law_right) [3]) mNil)))) (mRet (mK (.bl false))) (mNext))) xs [some (.scr (ns.map D.int)), e1, e2, e3] S) Q := by
      intro xs
      induction xs with
      | nil => intro S e1 e2 e3 _ _ Q hQ; exact loop_nil (hQ _ _ _ _)
      | cons x xs ih =>
        intro S e1 e2 e3 hS hx Q hQ
        obtain ⟨pl, rfl, p0, p1, p2⟩ := hx x List.mem_cons_self
        refine loop_cons (ev_name ?_)
        repeat' trivial
        refine t_pot h p0 p1 p2 fun c hc => ?_
        have hS' := flat_app hS hc
        have ps : PS S.length 0 (S ++ [c]) (S ++ [c]) := ⟨⟨c, hc, by simp⟩, by simp, hS'⟩
        repeat' trivial
        refine ev_comp (ev_rng1 ?_)
        repeat' trivial
        refine ⟨6, rfl, by decide, by decide, ?_⟩
        refine comp_invN (fun i S' => PS S.length (100 * i) (S ++ [c]) S') (fun y => y = .bl true) 6 0 (fun x i S1 hx hi hI => ⟨_, rfl, ?_⟩) (by decide) (by simpa using ps) fun ys S' hy hys hi => ?_
        · repeat' trivial
          refine t_right hI (by omega) fun S' h' => ⟨rfl, h'.up (by omega)⟩
        · repeat' trivial
          have ey : ys = (List.replicate ys.length true).map D.bl := by
            rw [List.map_replicate]
            exact List.eq_replicate_of_mem hys
          rw [ey]
          refine s_all ?_
          rw [show (List.replicate ys.length true).all id = true by simp]
          repeat' trivial
          exact ih S' _ _ _ hi.fl (fun z hz => hx z (List.mem_cons_of_mem _ hz)) Q hQ
    refine loop _ [] _ _ _ (show flatS [] from rfl) (fun x hx => ?_) _ fun e1 e2 e3 S' => ?_
    · unfold rngD at hx
      obtain ⟨i, hi, rfl⟩ := List.mem_map.mp hx
      have hi := List.mem_range.mp hi
      refine ⟨_, rfl, by omega, by omega, ?_⟩
      rcases hn with hn | ⟨rfl, rfl⟩
      · left; omega
      · right; exact ⟨rfl, by omega⟩
    · refine aft_nx ?_
      repeat' trivial
  obtain ⟨d, S, e, rfl⟩ := key.eq
  exact ⟨S, e⟩
end Lw

namespace Lw
open PySem PySem.Spec PyProof.Rows L2 Pv
theorem _root_.L2.FunD.same {K : PySem.W.Frag} {x qual : Str} {params : Arguments} {body : List Stmt} {scope : Scope} {dvs : List V} {kws : List (Str × V)} {f : Addr} {fd fd' : FuncData} (F : FunD K x qual params body scope dvs kws f fd) (F' : FunD K x qual params body scope dvs kws f fd') : fd = fd' := by
  obtain ⟨oc, od, dV, kV, doc, pm, an, cdv, ct, osl, e1, lk, _⟩ := F.ex
  obtain ⟨oc', od', dV', kV', doc', pm', an', cdv', ct', osl', e1', lk', _⟩ := F'.ex
  rw [lk] at lk'
  cases lk'
  rfl
end Lw
namespace Lw
open PySem PySem.Spec PyProof.Rows L2 Pv
/-! ### the head: what stands behind the top -/
def dd (i : Nat) (x : Str) : He.DefD := ⟨(x, none), x, x, defArgs (top i), defBody (top i), defScope (top i), [], []⟩
def dds : List He.DefD := [dd 30 "_law_cells", dd 27 "_law_pot", dd 28 "_law_take", dd 29 "_law_of", dd 35 "_law_struck", dd 9 "are_signs", dd 10 "is_signs", dd 11 "is_row_of", dd 20 "check_texts", dd 8 "is_tuple_of", dd 17 "is_parted_of", dd 18 "is_delay_of", dd 21 "check_delay", dd 13 "common_many", dd 15 "delay_by", dd 16 "then_by", dd 23 "delay_then", dd 33 "_law_row", dd 19 "is_delay", dd 25 "is_parted", dd 22 "delay_of", dd 31 "_law_is_int", dd 34 "_law_bent", dd 24 "delay_swapped", dd 32 "_law_signs", dd 36 "_law_is_delay", dd 37 "_law_right", dd 38 "law"]
def fcs : List He.Fa := [.glo "_law_cells", .glo "_law_pot", .glo "_law_take", .glo "_law_of", .glo "_law_struck", .glo "are_signs", .glo "is_signs", .glo "is_row_of", .glo "check_texts", .glo "is_tuple_of", .glo "is_parted_of", .glo "is_delay_of", .glo "check_delay", .glo "common_many", .glo "delay_by", .glo "then_by", .glo "delay_then", .glo "_law_row", .glo "is_delay", .glo "is_parted", .glo "delay_of", .glo "_law_is_int", .glo "_law_bent", .glo "delay_swapped", .glo "_law_signs", .glo "_law_is_delay", .glo "_law_right", .glo "law", .free "abs", .free "all", .free "bool", .free "int", .free "isinstance", .free "len", .free "list", .free "max", .free "min", .free "range", .free "repr", .free "str", .free "sum", .free "tuple", .int "MOST_ROW" 2000, .str "SIGNS" "abcdefghijklmnopqrstuvwxyz"]
abbrev Rw : PySem.W.OpenRow := PySem.W.OpenLaw.row PySem.Challenge.rw_onestrokeatatime_k03_whole_delays
abbrev hook : PySem.W.Hook := He.hookD 4 fcs dds
def seen (s : PySem.W.SharedT) : He.AlD := He.obsDG 4 fcs dds (HandSHeadRun.getT s)
theorem seen_eq (s : PySem.W.SharedT) : seen s = hook.obs s.abs := He.obsDG_eq (HandSHeadRun.getT_eq s)
def others : List Str := (["StrokeError", "BadDelay", "BadText", "TooLong", "SIGNS", "MOST_ROW", "is_tuple_of", "are_signs", "is_signs", "is_row_of", "common_many", "delay_by", "then_by", "is_parted_of", "is_delay_of", "is_delay", "check_texts", "check_delay", "delay_of", "delay_then", "delay_swapped", "is_parted", "_law_pot", "_law_take", "_law_of", "_law_cells", "_law_is_int", "_law_signs", "_law_row", "_law_bent"] : List Str) ++ (["_law_struck", "_law_is_delay", "_law_right"] : List Str)
theorem runs (w : World) : HandSHeadRun.RunEq Rw (PySem.W.view Rw.prog [38]) hook seen 4000 others w := by
  intro os
  kernel_rfl
theorem fx_of {K : PySem.W.Frag} {h : Heap} {mg : Str → Option Value} (X : K.In h) (G : h.Ns mainGlobals mg) (c : He.SaysD fcs dds K) : Fx K mg where
  b_abs := He.free_ok X G (c.fact 28 (f := .free "abs") rfl)
  b_all := He.free_ok X G (c.fact 29 (f := .free "all") rfl)
  b_bool := He.free_ok X G (c.fact 30 (f := .free "bool") rfl)
  b_int := He.free_ok X G (c.fact 31 (f := .free "int") rfl)
  b_isinstance := He.free_ok X G (c.fact 32 (f := .free "isinstance") rfl)
  b_len := He.free_ok X G (c.fact 33 (f := .free "len") rfl)
  b_list := He.free_ok X G (c.fact 34 (f := .free "list") rfl)
  b_max := He.free_ok X G (c.fact 35 (f := .free "max") rfl)
  b_min := He.free_ok X G (c.fact 36 (f := .free "min") rfl)
  b_range := He.free_ok X G (c.fact 37 (f := .free "range") rfl)
  b_repr := He.free_ok X G (c.fact 38 (f := .free "repr") rfl)
  b_str := He.free_ok X G (c.fact 39 (f := .free "str") rfl)
  b_sum := He.free_ok X G (c.fact 40 (f := .free "sum") rfl)
  b_tuple := He.free_ok X G (c.fact 41 (f := .free "tuple") rfl)
  g_MOST_ROW := He.int_ok X G (c.fact 42 (f := .int "MOST_ROW" 2000) rfl)
  g_SIGNS := He.str_ok X G (c.fact 43 (f := .str "SIGNS" "abcdefghijklmnopqrstuvwxyz") rfl)
  f__law_cells := have ⟨fd, F⟩ := c.def_ 0 (d := dd 30 "_law_cells") rfl; ⟨_, fd, F, He.glo_ok X G (c.fact 0 (f := .glo "_law_cells") rfl)⟩
  f__law_pot := have ⟨fd, F⟩ := c.def_ 1 (d := dd 27 "_law_pot") rfl; ⟨_, fd, F, He.glo_ok X G (c.fact 1 (f := .glo "_law_pot") rfl)⟩
  f__law_take := have ⟨fd, F⟩ := c.def_ 2 (d := dd 28 "_law_take") rfl; ⟨_, fd, F, He.glo_ok X G (c.fact 2 (f := .glo "_law_take") rfl)⟩
  f__law_of := have ⟨fd, F⟩ := c.def_ 3 (d := dd 29 "_law_of") rfl; ⟨_, fd, F, He.glo_ok X G (c.fact 3 (f := .glo "_law_of") rfl)⟩
  f__law_struck := have ⟨fd, F⟩ := c.def_ 4 (d := dd 35 "_law_struck") rfl; ⟨_, fd, F, He.glo_ok X G (c.fact 4 (f := .glo "_law_struck") rfl)⟩
  f_are_signs := have ⟨fd, F⟩ := c.def_ 5 (d := dd 9 "are_signs") rfl; ⟨_, fd, F, He.glo_ok X G (c.fact 5 (f := .glo "are_signs") rfl)⟩
  f_is_signs := have ⟨fd, F⟩ := c.def_ 6 (d := dd 10 "is_signs") rfl; ⟨_, fd, F, He.glo_ok X G (c.fact 6 (f := .glo "is_signs") rfl)⟩
  f_is_row_of := have ⟨fd, F⟩ := c.def_ 7 (d := dd 11 "is_row_of") rfl; ⟨_, fd, F, He.glo_ok X G (c.fact 7 (f := .glo "is_row_of") rfl)⟩
  f_check_texts := have ⟨fd, F⟩ := c.def_ 8 (d := dd 20 "check_texts") rfl; ⟨_, fd, F, He.glo_ok X G (c.fact 8 (f := .glo "check_texts") rfl)⟩
  f_is_tuple_of := have ⟨fd, F⟩ := c.def_ 9 (d := dd 8 "is_tuple_of") rfl; ⟨_, fd, F, He.glo_ok X G (c.fact 9 (f := .glo "is_tuple_of") rfl)⟩
  f_is_parted_of := have ⟨fd, F⟩ := c.def_ 10 (d := dd 17 "is_parted_of") rfl; ⟨_, fd, F, He.glo_ok X G (c.fact 10 (f := .glo "is_parted_of") rfl)⟩
  f_is_delay_of := have ⟨fd, F⟩ := c.def_ 11 (d := dd 18 "is_delay_of") rfl; ⟨_, fd, F, He.glo_ok X G (c.fact 11 (f := .glo "is_delay_of") rfl)⟩
  f_check_delay := have ⟨fd, F⟩ := c.def_ 12 (d := dd 21 "check_delay") rfl; ⟨_, fd, F, He.glo_ok X G (c.fact 12 (f := .glo "check_delay") rfl)⟩
  f_common_many := have ⟨fd, F⟩ := c.def_ 13 (d := dd 13 "common_many") rfl; ⟨_, fd, F, He.glo_ok X G (c.fact 13 (f := .glo "common_many") rfl)⟩
  f_delay_by := have ⟨fd, F⟩ := c.def_ 14 (d := dd 15 "delay_by") rfl; ⟨_, fd, F, He.glo_ok X G (c.fact 14 (f := .glo "delay_by") rfl)⟩
  f_then_by := have ⟨fd, F⟩ := c.def_ 15 (d := dd 16 "then_by") rfl; ⟨_, fd, F, He.glo_ok X G (c.fact 15 (f := .glo "then_by") rfl)⟩
  f_delay_then := have ⟨fd, F⟩ := c.def_ 16 (d := dd 23 "delay_then") rfl; ⟨_, fd, F, He.glo_ok X G (c.fact 16 (f := .glo "delay_then") rfl)⟩
  f__law_row := have ⟨fd, F⟩ := c.def_ 17 (d := dd 33 "_law_row") rfl; ⟨_, fd, F, He.glo_ok X G (c.fact 17 (f := .glo "_law_row") rfl)⟩
  f_is_delay := have ⟨fd, F⟩ := c.def_ 18 (d := dd 19 "is_delay") rfl; ⟨_, fd, F, He.glo_ok X G (c.fact 18 (f := .glo "is_delay") rfl)⟩
  f_is_parted := have ⟨fd, F⟩ := c.def_ 19 (d := dd 25 "is_parted") rfl; ⟨_, fd, F, He.glo_ok X G (c.fact 19 (f := .glo "is_parted") rfl)⟩
  f_delay_of := have ⟨fd, F⟩ := c.def_ 20 (d := dd 22 "delay_of") rfl; ⟨_, fd, F, He.glo_ok X G (c.fact 20 (f := .glo "delay_of") rfl)⟩
  f__law_is_int := have ⟨fd, F⟩ := c.def_ 21 (d := dd 31 "_law_is_int") rfl; ⟨_, fd, F, He.glo_ok X G (c.fact 21 (f := .glo "_law_is_int") rfl)⟩
  f__law_bent := have ⟨fd, F⟩ := c.def_ 22 (d := dd 34 "_law_bent") rfl; ⟨_, fd, F, He.glo_ok X G (c.fact 22 (f := .glo "_law_bent") rfl)⟩
  f_delay_swapped := have ⟨fd, F⟩ := c.def_ 23 (d := dd 24 "delay_swapped") rfl; ⟨_, fd, F, He.glo_ok X G (c.fact 23 (f := .glo "delay_swapped") rfl)⟩
  f__law_signs := have ⟨fd, F⟩ := c.def_ 24 (d := dd 32 "_law_signs") rfl; ⟨_, fd, F, He.glo_ok X G (c.fact 24 (f := .glo "_law_signs") rfl)⟩
  f__law_is_delay := have ⟨fd, F⟩ := c.def_ 25 (d := dd 36 "_law_is_delay") rfl; ⟨_, fd, F, He.glo_ok X G (c.fact 25 (f := .glo "_law_is_delay") rfl)⟩
  f__law_right := have ⟨fd, F⟩ := c.def_ 26 (d := dd 37 "_law_right") rfl; ⟨_, fd, F, He.glo_ok X G (c.fact 26 (f := .glo "_law_right") rfl)⟩
  f_law := have ⟨fd, F⟩ := c.def_ 27 (d := dd 38 "law") rfl; ⟨_, fd, F, He.glo_ok X G (c.fact 27 (f := .glo "law") rfl)⟩
theorem law_has {P : Program} {w : World} {K : PySem.W.Frag} {h : Heap} {mg : Str → Option Value} {f : Addr} (X : K.In h) (G : h.Ns mainGlobals mg) (hfa : mg ("law" : Str) = some (.ref f)) (c : He.SaysD fcs dds K) :
    ∃ fd : FuncData, (∀ (s : Shared) (v : Value), BindsTo s fd ⟨[v], []⟩ [("script", v)]) ∧ ∀ base : Heap, K.In base → base.Ns mainGlobals mg → RunsM P w K mg base 17 f fd ["script"] d_law := by
  have T := fx_of X G c
  obtain ⟨f0, fd0, F0, hm0⟩ := T.f_law
  have ef : f0 = f := by
    have e := hm0.symm.trans hfa
    cases e
    rfl
  subst ef
  have b := FunD.bindsA (ps := ["script"]) F0 fun _ _ _ _ _ _ us hl => match us, hl with | [_], _ => rfl
  refine ⟨fd0, fun s v => b s [v] rfl, fun base _ _ => ?_⟩
  obtain ⟨f1, fd1, F1, hm1, R1⟩ := (ok_all (P := P) (w := w) (base := base) T).ex
  have e1 : f1 = f0 := by
    have e := hm1.symm.trans hm0
    cases e
    rfl
  subst e1
  have e2 : fd1 = fd0 := F1.same F0
  subst e2
  exact R1
end Lw
open PySem PySem.W PyProof.Rows
set_option maxRecDepth 100000 in
set_option maxHeartbeats 0 in
theorem PySem.Challenge.cw_onestrokeatatime_k03_whole_delays_holds : PySem.Challenge.rw_onestrokeatatime_k03_whole_delays.Holds := by
  w_on; o_law
  refine HandSHeadRun.head_any (r := Lw.Rw) (q := view Lw.Rw.prog [38]) (H := Lw.hook) (ob := Lw.seen) (M := 4000) (loose := Lw.others) (d := HandSHeadRun.topDef Lw.Rw.prog 38) (kwd := []) Lw.seen_eq
    (by kernel_rfl) (fun s => by kernel_rfl) Lw.runs (by kernel_rfl) (by kernel_rfl) (by kernel_rfl) (by rfl) (by first | assumption | decide +kernel) (by decide +kernel) ⟨rfl, rfl, rfl, rfl, rfl, by decide +kernel⟩ ?hw ?hc
  case hw => w_witness2
  case hc =>
    refine Pv.law_end (l := PySem.Challenge.rw_onestrokeatatime_k03_whole_delays) (n := 63) (k := 17) (x := "script") (m := Lw.d_law) rfl (by decide) (by kernel_rfl) ⟨rfl, by decide, by decide⟩ ?F Lw.law_true
    intro w mg fa hp Y G m0
    obtain ⟨K, KX, c⟩ := Y
    have m1 : mg ("law" : PySem.Str) = some (.ref fa) := by
      have e : (HandSHeadRun.topDef Lw.Rw.prog 38).name = ("law" : PySem.Str) := by kernel_rfl
      exact e ▸ m0
    obtain ⟨fd, hb, hF⟩ := Lw.law_has (P := (PySem.Challenge.rw_onestrokeatatime_k03_whole_delays).prog) (w := w) KX G m1 c
    exact ⟨K, fd, KX, hb, hF⟩

