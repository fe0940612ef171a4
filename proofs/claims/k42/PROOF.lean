import PyProof.Rows.All
import Wide.All
import OpenK.AllK
import Wide.FinOn
import HandS.ForMost
import HandS.TupAny
import HandS.TupMul
import HandS.Style
import HandS.Wide
import HandS.IsInst
import HandS.StrMore
import HandS.Zip
import HandS.Deep
import HandS.RaiseMore
import HandS.SortInts
import HandS.Conv
import PyProof.ReprRoads
import PyProof.ReprLen
import PyProof.StrLawsRepr
import PyProof.FitsInt
import HandS.Star
import HandS.Defaults
import HandS.Words
import HandS.Ends
import HandS.Iter
import KE.KRevSl
import HandS.Codes
import KE.DataMinMax
import HandS.More
import HandS.ListItems
import HandS.WordsDict
import KE.KEqDict
import HandS.Set
import HandS.SetFor
import HandS.SetKeys
import KE.SortData
import HandS.Strs
import KE.GoesMore
import PyProof.Transfer
import KE.DataCmp
import PySem.Challenge.RW_onestrokeatatime_k42_great_strokes_that
import KE.KStateDown
import Lean
import HandS.Base
import HandS.Call
import HandS.WordsExc
import HandS.Head0
import HandS.Head1
import HandS.Head2
import HandS.HeadEnd
import HandS.HeadHook1
import HandS.HeadHook2
set_option Elab.async false
set_option linter.all false
set_option maxRecDepth 1000000
set_option maxHeartbeats 0
/-! Pv1: data as trees, a store of lists that change, how both lie in the heap. -/
namespace Pv
open PySem PySem.Spec PyProof.Rows L2

/-! ### data, cells, the store -/
/-- other things, by their kinds: a dict with such keys -/
inductive Tg where
  | dk (ks : List Key)
  | dt (ks : List (List Key))
inductive D where
  | non
  | bl (b : Bool)
  | int (i : Int)
  | str (x : Str)
  | tup (xs : List D)
  | lst (xs : List D)
  | cell (k : Nat)
  | ty (n : String)
  | scr (xs : List D)
  | oth (t : Tg) (xs : List D)
instance : Inhabited D := ⟨.non⟩
/-- what changes: a list, a dict; one that stands locked while it is walked -/
inductive Cl where
  | lst (xs : List D)
  | oth (t : Tg) (xs : List D)
  | lck (t : Tg) (xs : List D)
  | lkl (xs : List D)
def Cl.parts : Cl → List D
  | .lst xs => xs
  | .oth _ xs => xs
  | .lck _ xs => xs
  | .lkl xs => xs
abbrev Sto := List Cl
abbrev En := List (Option D)
inductive R (α : Type) where
  | ok (a : α) (S : Sto)
  | exc (c : Str) (v : D) (S : Sto)
  | no
def M (α : Type) : Type := Sto → R α
def M.bind {α β : Type} (m : M α) (f : α → M β) : M β := fun S => match m S with
  | .ok a S' => f a S'
  | .exc c v S' => .exc c v S'
  | .no => .no
def M.pure {α : Type} (a : α) : M α := fun S => .ok a S
instance : Monad M where
  pure := M.pure
  bind := M.bind
def stuck {α : Type} : M α := fun _ => .no
def M.of {α : Type} : Option α → M α
  | some a => M.pure a
  | none => stuck
theorem bind_ok {α β : Type} {m : M α} {f : α → M β} {S S' : Sto} {b : β} (h : (m >>= f) S = .ok b S') : ∃ a S1, m S = .ok a S1 ∧ f a S1 = .ok b S' := by
  have h' : M.bind m f S = .ok b S' := h
  unfold M.bind at h'
  cases e : m S with
  | ok a S1 => rw [e] at h'; exact ⟨a, S1, rfl, h'⟩
  | exc c v S1 => rw [e] at h'; cases h'
  | no => rw [e] at h'; cases h'
theorem pure_ok {α : Type} {a b : α} {S S' : Sto} (h : (pure a : M α) S = .ok b S') : a = b ∧ S = S' := by
  have h' : R.ok a S = R.ok b S' := h
  cases h'
  exact ⟨rfl, rfl⟩
theorem of_ok {α : Type} {o : Option α} {b : α} {S S' : Sto} (h : M.of o S = .ok b S') : o = some b ∧ S = S' := by
  cases o with
  | none => cases h
  | some a =>
    have h' : R.ok a S = R.ok b S' := h
    cases h'
    exact ⟨rfl, rfl⟩

/-! ### how data lie in the abstract heap: ρ the cells' addresses, Z lists that are being made -/
/-- a list that nobody changes: tracked, no cell, none that is being made -/
def LstAt (Z ρ : List Addr) (H : Hp) (a : Addr) (vs : List V) : Prop := H a = some (.lst vs) ∧ a ∉ ρ ∧ a ∉ Z
/-- the script: known to its object, or an object of the module -/
def ScrAt (K : PySem.W.Frag) (ρ : List Addr) (H : Hp) (a : Addr) (vs : List V) : Prop :=
  (∃ o, H a = some (.frz o (.lst vs)) ∧ a ∉ ρ) ∨
    ∃ (o : Obj) (its : Array Value) (n : Nat), K.lookup a = some o ∧ o.cls = .type "list" ∧ o.dict = none ∧ o.data = .seq its n ∧ its.size ≤ sizeLine ∧ Vals vs its.toList
theorem LstAt.seq {K : PySem.W.Frag} {Z ρ : List Addr} {H : Hp} {a : Addr} {vs : List V} (h : LstAt Z ρ H a vs) : SqL K H a vs := .inl (.inl h.1)
theorem ScrAt.seq {K : PySem.W.Frag} {ρ : List Addr} {H : Hp} {a : Addr} {vs : List V} (h : ScrAt K ρ H a vs) : SqL K H a vs := by
  rcases h with ⟨o, h, _⟩ | h
  · exact .inl (.inr ⟨o, h⟩)
  · exact .inr h
/-- what a thing of this kind with these parts is in the heap; how it may be read -/
def hoOf : Tg → List V → HO
  | .dk ks, vs => .dK (ks.zip vs)
  | .dt ks, vs => .dT (ks.zip vs)
def Tg.wf : Tg → List V → Prop
  | .dk ks, vs => ks.length = vs.length
  | .dt ks, vs => ks.length = vs.length
/-- a thing that nobody changes stands so -/
def TagIs : Tg → Addr → List V → List (Addr × HO) → Prop
  | .dk ks, a, vs, G => ks.length = vs.length ∧ ∃ u, G = [(a, u)] ∧ (u = .dK (ks.zip vs) ∨ ∃ o, u = .frz o (.dK (ks.zip vs)))
  | .dt ks, a, vs, G => ks.length = vs.length ∧ ∃ u, G = [(a, u)] ∧ (u = .dT (ks.zip vs) ∨ ∃ o, u = .frz o (.dT (ks.zip vs)))
structure OthAt (Z ρ : List Addr) (H : Hp) (t : Tg) (a : Addr) (vs : List V) : Prop where
  ex : ∃ G : List (Addr × HO), TagIs t a vs G ∧ ∀ p, p ∈ G → H p.1 = some p.2 ∧ p.1 ∉ ρ ∧ p.1 ∉ Z
theorem OthAt.imp {Z Z' ρ ρ' : List Addr} {H H' : Hp} {t : Tg} {a : Addr} {vs : List V} (h : OthAt Z ρ H t a vs) (i : ∀ b o, H b = some o → b ∉ ρ → b ∉ Z → H' b = some o ∧ b ∉ ρ' ∧ b ∉ Z') : OthAt Z' ρ' H' t a vs :=
  let ⟨G, g, q⟩ := h.ex
  ⟨G, g, fun p hp => let ⟨h1, h2, h3⟩ := q p hp; i _ _ h1 h2 h3⟩
theorem OthAt.of {Z ρ : List Addr} {H : Hp} {t : Tg} {a : Addr} {vs : List V} (h : H a = some (hoOf t vs)) (w : t.wf vs) (hr : a ∉ ρ) (hz : a ∉ Z) : OthAt Z ρ H t a vs := by
  refine ⟨[(a, hoOf t vs)], ?_, fun p hp => by rw [List.mem_singleton.mp hp]; exact ⟨h, hr, hz⟩⟩
  cases t with
  | dk ks => exact ⟨w, _, rfl, .inl rfl⟩
  | dt ks => exact ⟨w, _, rfl, .inl rfl⟩
mutual
inductive Is (K : PySem.W.Frag) (Z ρ : List Addr) (H : Hp) : V → D → Prop
  | non : Is K Z ρ H .non .non
  | bl (b : Bool) : Is K Z ρ H (.bl b) (.bl b)
  | int (i : Int) : Is K Z ρ H (.int i) (.int i)
  | str (x : Str) : Is K Z ρ H (.str x) (.str x)
  | tup {a : Addr} {vs : List V} {ds : List D} : SqT K H a vs → IsAll K Z ρ H vs ds → Is K Z ρ H (.ref a) (.tup ds)
  | lst {a : Addr} {vs : List V} {ds : List D} : LstAt Z ρ H a vs → IsAll K Z ρ H vs ds → Is K Z ρ H (.ref a) (.lst ds)
  | cell {a : Addr} {k : Nat} : ρ[k]? = some a → Is K Z ρ H (.ref a) (.cell k)
  | ty (n : String) : Is K Z ρ H (.ty n) (.ty n)
  | scr {a : Addr} {vs : List V} {ds : List D} : ScrAt K ρ H a vs → IsAll K Z ρ H vs ds → Is K Z ρ H (.ref a) (.scr ds)
  | oth {a : Addr} {t : Tg} {vs : List V} {ds : List D} : OthAt Z ρ H t a vs → IsAll K Z ρ H vs ds → Is K Z ρ H (.ref a) (.oth t ds)
inductive IsAll (K : PySem.W.Frag) (Z ρ : List Addr) (H : Hp) : List V → List D → Prop
  | nil : IsAll K Z ρ H [] []
  | cons {v : V} {vs : List V} {d : D} {ds : List D} : Is K Z ρ H v d → IsAll K Z ρ H vs ds → IsAll K Z ρ H (v :: vs) (d :: ds)
end
/-- how what changes stands at a -/
def HoIs (H : Hp) (a : Addr) (vs : List V) : Cl → Prop
  | .lst _ => H a = some (.lst vs)
  | .oth t _ => H a = some (hoOf t vs) ∧ t.wf vs
  | .lck t _ => (∃ o, H a = some (.frz o (hoOf t vs))) ∧ t.wf vs
  | .lkl _ => ∃ o, H a = some (.frz o (.lst vs))
def CellIs (K : PySem.W.Frag) (Z ρ : List Addr) (H : Hp) (a : Addr) (c : Cl) : Prop := ∃ vs, HoIs H a vs c ∧ IsAll K Z ρ H vs c.parts
/-- what a cell's address holds -/
def CellO : HO → Prop
  | .lst _ => True
  | .dK _ => True
  | .dT _ => True
  | .frz _ (.dK _) => True
  | .frz _ (.dT _) => True
  | .frz _ (.lst _) => True
  | _ => False
theorem HoIs.ho {H : Hp} {a : Addr} {vs : List V} {c : Cl} (h : HoIs H a vs c) : ∃ o, H a = some o ∧ CellO o := by
  cases c with
  | lst xs => exact ⟨_, h, trivial⟩
  | oth t xs => cases t <;> exact ⟨_, h.1, trivial⟩
  | lck t xs => obtain ⟨⟨o, h⟩, _⟩ := h; cases t <;> exact ⟨_, h, trivial⟩
  | lkl xs => obtain ⟨o, h⟩ := h; exact ⟨_, h, trivial⟩
theorem HoIs.at {H H' : Hp} {a : Addr} {vs : List V} {c : Cl} (h : HoIs H a vs c) (e : H' a = H a) : HoIs H' a vs c := by
  cases c with
  | lst xs => exact e.trans h
  | oth t xs => exact ⟨e.trans h.1, h.2⟩
  | lck t xs => exact ⟨let ⟨o, h⟩ := h.1; ⟨o, e.trans h⟩, h.2⟩
  | lkl xs => exact let ⟨o, h⟩ := h; ⟨o, e.trans h⟩
/-- what is being made -/
def ZO : HO → Prop
  | .lst _ => True
  | .dK _ => True
  | .dT _ => True
  | _ => False
theorem ZO.co {o : HO} (h : ZO o) : CellO o := by cases o <;> first | exact trivial | exact h.elim
structure Ok (K : PySem.W.Frag) (Z ρ : List Addr) (S : Sto) (H : Hp) : Prop where
  len : ρ.length = S.length
  nd : ρ.Nodup
  zd : ∀ a, a ∈ ρ → a ∉ Z
  zt : ∀ a, a ∈ Z → ∃ o, H a = some o ∧ CellO o
  cell : ∀ (k : Nat) (a : Addr) (c : Cl), ρ[k]? = some a → S[k]? = some c → CellIs K Z ρ H a c
structure Ext (ρ : List Addr) (H : Hp) (ρ' : List Addr) (H' : Hp) : Prop where
  more : ∃ m, ρ' = ρ ++ m ∧ ∀ a, a ∈ m → H a = none
  keep : ∀ b o, b ∉ ρ → H b = some o → H' b = some o
  there : ∀ b o, H b = some o → ∃ o', H' b = some o'
  frz : ∀ b o u, H b = some (.frz o u) → H' b = some (.frz o u)
section
variable {K : PySem.W.Frag} {Z Z' ρ ρ' ρ2 : List Addr} {S S' : Sto} {H H' H2 : Hp} {a b : Addr} {v : V} {vs : List V} {d : D} {ds : List D}
theorem CellIs.ho {c : Cl} (h : CellIs K Z ρ H a c) : ∃ o, H a = some o ∧ CellO o := by
  obtain ⟨vs, e, _⟩ := h; exact e.ho
theorem Ok.at (o : Ok K Z ρ S H) (h : a ∈ ρ) : ∃ (k : Nat) (c : Cl), ρ[k]? = some a ∧ S[k]? = some c ∧ CellIs K Z ρ H a c := by
  obtain ⟨k, hk, e⟩ := List.getElem_of_mem h
  have h1 : ρ[k]? = some a := by rw [List.getElem?_eq_getElem hk, e]
  have h2 : k < S.length := by rw [← o.len]; exact hk
  exact ⟨k, S[k], h1, List.getElem?_eq_getElem h2, o.cell k a _ h1 (List.getElem?_eq_getElem h2)⟩
theorem Ok.ho (o : Ok K Z ρ S H) (h : a ∈ ρ) : ∃ o, H a = some o ∧ CellO o := by
  obtain ⟨_, _, _, _, q⟩ := o.at h
  exact q.ho
theorem Ok.nf (o : Ok K Z ρ S H) (h : H a = none) : a ∉ ρ := fun z => by
  obtain ⟨vs, e, _⟩ := o.ho z
  rw [h] at e; cases e
theorem Ok.nc (o : Ok K Z ρ S H) {u : HO} (h : H a = some u) (n : ¬ CellO u) : a ∉ ρ := fun z => by
  obtain ⟨v, e, c⟩ := o.ho z
  rw [h] at e; cases e
  exact n c
theorem Ok.cellL (o : Ok K Z ρ S H) {n : Nat} {es : List D} (h : ρ[n]? = some a) (e : S[n]? = some (.lst es)) : ∃ vs, H a = some (.lst vs) ∧ IsAll K Z ρ H vs es := o.cell n a _ h e
theorem Ok.cellO (o : Ok K Z ρ S H) {n : Nat} {t : Tg} {es : List D} (h : ρ[n]? = some a) (e : S[n]? = some (.oth t es)) : ∃ vs, H a = some (hoOf t vs) ∧ t.wf vs ∧ IsAll K Z ρ H vs es :=
  let ⟨vs, ⟨h1, h2⟩, r⟩ := o.cell n a _ h e
  ⟨vs, h1, h2, r⟩
theorem Ext.refl : Ext ρ H ρ H := ⟨⟨[], by simp, fun _ h => by cases h⟩, fun _ _ _ h => h, fun _ o h => ⟨o, h⟩, fun _ _ _ h => h⟩
theorem Ext.mem (e : Ext ρ H ρ' H') (h : a ∈ ρ) : a ∈ ρ' := by
  obtain ⟨m, q, _⟩ := e.more
  rw [q]; exact List.mem_append_left _ h
theorem Ext.get {k : Nat} (e : Ext ρ H ρ' H') (h : ρ[k]? = some a) : ρ'[k]? = some a := by
  obtain ⟨m, q, _⟩ := e.more
  rw [q, List.getElem?_append_left (List.getElem?_eq_some_iff.mp h).1]
  exact h
theorem Ext.old (e : Ext ρ H ρ' H') {o : HO} (h : H a = some o) (n : a ∉ ρ) : a ∉ ρ' := by
  obtain ⟨m, q, f⟩ := e.more
  rw [q]
  intro z
  rcases List.mem_append.mp z with z | z
  · exact n z
  · rw [f a z] at h; cases h
theorem Ext.trans (e : Ext ρ H ρ' H') (f : Ext ρ' H' ρ2 H2) : Ext ρ H ρ2 H2 := by
  obtain ⟨m, q, g⟩ := e.more
  obtain ⟨m2, q2, g2⟩ := f.more
  refine ⟨⟨m ++ m2, by rw [q2, q, List.append_assoc], fun a h => ?_⟩, fun b o n h => f.keep b o (e.old h n) (e.keep b o n h), fun b o h => ?_, fun b o u h => f.frz b o u (e.frz b o u h)⟩
  · rcases List.mem_append.mp h with h | h
    · exact g a h
    · cases q3 : H a with
      | none => rfl
      | some o =>
        obtain ⟨o', z⟩ := e.there a o q3
        rw [g2 a h] at z; cases z
  · obtain ⟨o', z⟩ := e.there b o h
    exact f.there b o' z
/-- a list, a tuple that stands outside the cells stays -/
theorem keepL (e : Ext ρ H ρ' H') (h : LstAt Z ρ H a vs) : LstAt Z ρ' H' a vs := ⟨e.keep a _ h.2.1 h.1, e.old h.1 h.2.1, h.2.2⟩
theorem keepS (e : Ext ρ H ρ' H') (h : ScrAt K ρ H a vs) : ScrAt K ρ' H' a vs := by
  rcases h with ⟨o, h, n⟩ | h
  · exact .inl ⟨o, e.keep a _ n h, e.old h n⟩
  · exact .inr h
theorem keepT (k : Ok K Z ρ S H) (e : Ext ρ H ρ' H') (h : SqT K H a vs) : SqT K H' a vs := by
  rcases h with (h | ⟨o, h⟩) | h
  · exact .inl (.inl (e.keep a _ (k.nc h id) h))
  · exact .inl (.inr ⟨o, e.keep a _ (k.nc h id) h⟩)
  · exact .inr h
theorem keepO (e : Ext ρ H ρ' H') {t : Tg} (h : OthAt Z ρ H t a vs) : OthAt Z ρ' H' t a vs := h.imp fun b o h1 h2 h3 => ⟨e.keep b o h2 h1, e.old h1 h2, h3⟩
mutual
theorem Is.mono (k : Ok K Z ρ S H) (e : Ext ρ H ρ' H') : ∀ {v : V} {d : D}, Is K Z ρ H v d → Is K Z ρ' H' v d
  | _, _, .non => .non
  | _, _, .bl b => .bl b
  | _, _, .int i => .int i
  | _, _, .str x => .str x
  | _, _, .tup h r => .tup (keepT k e h) (IsAll.mono k e r)
  | _, _, .lst h r => .lst (keepL e h) (IsAll.mono k e r)
  | _, _, .cell h => .cell (e.get h)
  | _, _, .ty n => .ty n
  | _, _, .scr h r => .scr (keepS e h) (IsAll.mono k e r)
  | _, _, .oth h r => .oth (keepO e h) (IsAll.mono k e r)
theorem IsAll.mono (k : Ok K Z ρ S H) (e : Ext ρ H ρ' H') : ∀ {vs : List V} {ds : List D}, IsAll K Z ρ H vs ds → IsAll K Z ρ' H' vs ds
  | _, _, .nil => .nil
  | _, _, .cons h r => .cons (Is.mono k e h) (IsAll.mono k e r)
end
theorem IsAll.length : ∀ {vs : List V} {ds : List D}, IsAll K Z ρ H vs ds → vs.length = ds.length
  | _, _, .nil => rfl
  | _, _, .cons _ r => congrArg (· + 1) (IsAll.length r)
theorem IsAll.append : ∀ {vs ws : List V} {ds es : List D}, IsAll K Z ρ H vs ds → IsAll K Z ρ H ws es → IsAll K Z ρ H (vs ++ ws) (ds ++ es)
  | _, _, _, _, .nil, s => s
  | _, _, _, _, .cons h r, s => .cons h (IsAll.append r s)
theorem IsAll.get : ∀ {vs : List V} {ds : List D} {i : Nat} {d : D}, IsAll K Z ρ H vs ds → ds[i]? = some d → ∃ v, vs[i]? = some v ∧ Is K Z ρ H v d
  | _, _, i, d, .nil, e => by simp at e
  | _, _, 0, d, .cons h _, e => by simp at e; subst e; exact ⟨_, rfl, h⟩
  | _, _, i + 1, d, .cons _ r, e => by
    obtain ⟨v, a, b⟩ := IsAll.get (i := i) r (by simpa using e)
    exact ⟨v, by simpa using a, b⟩
theorem IsAll.getV : ∀ {vs : List V} {ds : List D} {i : Nat} {v : V}, IsAll K Z ρ H vs ds → vs[i]? = some v → ∃ d, ds[i]? = some d ∧ Is K Z ρ H v d
  | _, _, i, d, .nil, e => by simp at e
  | _, _, 0, d, .cons h _, e => by simp at e; subst e; exact ⟨_, rfl, h⟩
  | _, _, i + 1, d, .cons _ r, e => by
    obtain ⟨v, a, b⟩ := IsAll.getV (i := i) r (by simpa using e)
    exact ⟨v, by simpa using a, b⟩
theorem IsAll.drop : ∀ {vs : List V} {ds : List D} (n : Nat), IsAll K Z ρ H vs ds → IsAll K Z ρ H (vs.drop n) (ds.drop n)
  | _, _, 0, r => r
  | _, _, n + 1, .nil => .nil
  | _, _, n + 1, .cons _ r => IsAll.drop n r
theorem IsAll.take : ∀ {vs : List V} {ds : List D} (n : Nat), IsAll K Z ρ H vs ds → IsAll K Z ρ H (vs.take n) (ds.take n)
  | _, _, 0, r => .nil
  | _, _, n + 1, .nil => .nil
  | _, _, n + 1, .cons h r => .cons h (IsAll.take n r)
theorem IsAll.reverse : ∀ {vs : List V} {ds : List D}, IsAll K Z ρ H vs ds → IsAll K Z ρ H vs.reverse ds.reverse
  | _, _, .nil => .nil
  | _, _, .cons h r => by
    rw [List.reverse_cons, List.reverse_cons]
    exact (IsAll.reverse r).append (.cons h .nil)
theorem IsAll.set {v : V} {d : D} (h : Is K Z ρ H v d) : ∀ {vs : List V} {ds : List D} (i : Nat), IsAll K Z ρ H vs ds → IsAll K Z ρ H (vs.set i v) (ds.set i d)
  | _, _, _, .nil => .nil
  | _, _, 0, .cons _ r => .cons h r
  | _, _, n + 1, .cons q r => .cons q (IsAll.set h n r)
theorem IsAll.ints : ∀ (ns : List Int), IsAll K Z ρ H (ns.map V.int) (ns.map D.int)
  | [] => .nil
  | n :: ns => .cons (.int n) (IsAll.ints ns)

/-! ### steps of the heap -/
/-- the cells stand as they stood -/
theorem Ok.step (k : Ok K Z ρ S H) (e : Ext ρ H ρ H') (c : ∀ a, a ∈ ρ → H' a = H a) (z : ∀ a, a ∈ Z → H' a = H a) : Ok K Z ρ S H' where
  len := k.len
  nd := k.nd
  zd := k.zd
  zt := fun a h => by rw [z a h]; exact k.zt a h
  cell := fun i a q h1 h2 => by
    obtain ⟨vs, e1, r⟩ := k.cell i a q h1 h2
    exact ⟨vs, e1.at (c a (List.mem_of_getElem? h1)), r.mono k e⟩
theorem ext_new {p : Addr} {o : HO} (hp : H p = none) : Ext ρ H ρ (upd H p o) :=
  ⟨⟨[], by simp, fun _ h => by cases h⟩, fun b u _ h => by rw [upd_ne (ne_of_none h hp)]; exact h, fun b u h => ⟨u, by rw [upd_ne (ne_of_none h hp)]; exact h⟩, fun b o u h => by rw [upd_ne (ne_of_none h hp)]; exact h⟩
theorem Ok.new (k : Ok K Z ρ S H) {p : Addr} {o : HO} (hp : H p = none) : Ok K Z ρ S (upd H p o) :=
  k.step (ext_new hp) (fun a h => by obtain ⟨vs, e, _⟩ := k.ho h; rw [upd_ne (ne_of_none e hp)]) fun a h => by obtain ⟨vs, e, _⟩ := k.zt a h; rw [upd_ne (ne_of_none e hp)]
theorem Ok.nz (k : Ok K Z ρ S H) {p : Addr} (hp : H p = none) : p ∉ Z := fun z => by
  obtain ⟨vs, e, _⟩ := k.zt p z
  rw [hp] at e; cases e
/-- a new tuple -/
theorem new_tup (k : Ok K Z ρ S H) {p : Addr} (hp : H p = none) (r : IsAll K Z ρ H vs ds) : Is K Z ρ (upd H p (.tup vs)) (.ref p) (.tup ds) :=
  .tup (SqT.of upd_same) (r.mono k (ext_new hp))
/-- a new list that nobody changes -/
theorem new_lst (k : Ok K Z ρ S H) {p : Addr} (hp : H p = none) (r : IsAll K Z ρ H vs ds) : Is K Z ρ (upd H p (.lst vs)) (.ref p) (.lst ds) :=
  .lst ⟨upd_same, k.nf hp, k.nz hp⟩ (r.mono k (ext_new hp))
/-- a tracked list becomes a cell -/
theorem Ok.cell_of' (k : Ok K Z ρ S H) {p : Addr} (hp : H p = none) {c0 : Cl} {o : HO} (ho : HoIs (upd H p o) p vs c0) (r : IsAll K Z ρ H vs c0.parts) :
    Ok K Z (ρ ++ [p]) (S ++ [c0]) (upd H p o) ∧ Ext ρ H (ρ ++ [p]) (upd H p o) ∧ Is K Z (ρ ++ [p]) (upd H p o) (.ref p) (.cell S.length) := by
  have e : Ext ρ H (ρ ++ [p]) (upd H p o) := ⟨⟨[p], rfl, fun a h => by rw [List.mem_singleton.mp h]; exact hp⟩, (ext_new (ρ := ρ) hp).keep, (ext_new (ρ := ρ) hp).there, (ext_new (ρ := ρ) hp).frz⟩
  refine ⟨⟨by rw [List.length_append, List.length_append, k.len]; rfl, ?_, fun a h => ?_, fun a h => ?_, fun i a c h1 h2 => ?_⟩, e, .cell (by rw [← k.len]; simp)⟩
  · rw [List.nodup_append]
    exact ⟨k.nd, by simp, fun a ha b hb z => k.nf hp (by rw [List.mem_singleton.mp hb] at z; rw [← z]; exact ha)⟩
  · rcases List.mem_append.mp h with h | h
    · exact k.zd a h
    · rw [List.mem_singleton.mp h]; exact k.nz hp
  · obtain ⟨vs, q, z⟩ := k.zt a h
    exact ⟨vs, by rw [upd_ne (ne_of_none q hp)]; exact q, z⟩
  · by_cases hi : i < ρ.length
    · rw [List.getElem?_append_left hi] at h1
      rw [List.getElem?_append_left (by rw [← k.len]; exact hi)] at h2
      obtain ⟨ws, e1, r1⟩ := k.cell i a c h1 h2
      obtain ⟨_, e2, _⟩ := e1.ho
      exact ⟨ws, e1.at (upd_ne (ne_of_none e2 hp)), r1.mono k e⟩
    · have hi2 : i = ρ.length := by
        have := (List.getElem?_eq_some_iff.mp h1).1
        rw [List.length_append] at this
        simp at this; omega
      subst hi2
      have a1 : p = a := by simpa using h1
      have a2 : c0 = c := by rw [k.len] at h2; simpa using h2
      subst a1 a2
      exact ⟨vs, ho, r.mono k e⟩
theorem Ok.cell_of (k : Ok K Z ρ S H) {p : Addr} (hp : H p = none) (r : IsAll K Z ρ H vs ds) :
    Ok K Z (ρ ++ [p]) (S ++ [.lst ds]) (upd H p (.lst vs)) ∧ Ext ρ H (ρ ++ [p]) (upd H p (.lst vs)) ∧ Is K Z (ρ ++ [p]) (upd H p (.lst vs)) (.ref p) (.cell S.length) :=
  k.cell_of' hp (c0 := .lst ds) upd_same r
theorem Ok.cell_oth (k : Ok K Z ρ S H) {p : Addr} {t : Tg} (hp : H p = none) (w : t.wf vs) (r : IsAll K Z ρ H vs ds) :
    Ok K Z (ρ ++ [p]) (S ++ [.oth t ds]) (upd H p (hoOf t vs)) ∧ Ext ρ H (ρ ++ [p]) (upd H p (hoOf t vs)) ∧ Is K Z (ρ ++ [p]) (upd H p (hoOf t vs)) (.ref p) (.cell S.length) :=
  k.cell_of' hp (c0 := .oth t ds) ⟨upd_same, w⟩ r
/-- a cell is written -/
theorem Ok.write' (k : Ok K Z ρ S H) {i : Nat} (h : ρ[i]? = some a) (hz : ∃ o, H a = some o ∧ ZO o) {c' : Cl} {u : HO} (ho : HoIs (upd H a u) a vs c') (r : IsAll K Z ρ H vs c'.parts) :
    Ok K Z ρ (S.set i c') (upd H a u) ∧ Ext ρ H ρ (upd H a u) := by
  have ha : a ∈ ρ := List.mem_of_getElem? h
  have e : Ext ρ H ρ (upd H a u) := ⟨⟨[], by simp, fun _ h => by cases h⟩, fun b o n q => by rw [upd_ne (fun z => n (by rw [z]; exact ha))]; exact q, fun b o q => by
    by_cases z : b = a
    · exact ⟨_, by rw [z]; exact upd_same⟩
    · exact ⟨o, by rw [upd_ne z]; exact q⟩, fun b o v q => by
    obtain ⟨w, h1, h2⟩ := hz
    rw [upd_ne (fun z => by rw [z, h1] at q; cases q; exact h2)]
    exact q⟩
  refine ⟨⟨by rw [List.length_set]; exact k.len, k.nd, k.zd, fun b hb => ?_, fun j b c h1 h2 => ?_⟩, e⟩
  · obtain ⟨ws, q, zz⟩ := k.zt b hb
    exact ⟨ws, by rw [upd_ne (fun z => k.zd a ha (by rw [← z]; exact hb))]; exact q, zz⟩
  · by_cases hj : j = i
    · subst hj
      rw [h] at h1; cases h1
      have hl : j < S.length := by rw [← k.len]; exact (List.getElem?_eq_some_iff.mp h).1
      rw [List.getElem?_set_self hl] at h2
      cases h2
      exact ⟨vs, ho, r.mono k e⟩
    · rw [List.getElem?_set_ne (Ne.symm hj)] at h2
      obtain ⟨ws, e1, r1⟩ := k.cell j b c h1 h2
      have hne : b ≠ a := fun z => hj ((List.getElem?_inj (List.getElem?_eq_some_iff.mp h1).1 k.nd).mp (by rw [h1, h, z]))
      exact ⟨ws, e1.at (upd_ne hne), r1.mono k e⟩
theorem Ok.write (k : Ok K Z ρ S H) {i : Nat} (h : ρ[i]? = some a) (hz : ∃ o, H a = some o ∧ ZO o) (r : IsAll K Z ρ H vs ds) :
    Ok K Z ρ (S.set i (.lst ds)) (upd H a (.lst vs)) ∧ Ext ρ H ρ (upd H a (.lst vs)) := k.write' h hz (c' := .lst ds) upd_same r
theorem Ok.write_oth (k : Ok K Z ρ S H) {i : Nat} {t : Tg} (h : ρ[i]? = some a) (hz : ∃ o, H a = some o ∧ ZO o) (w : t.wf vs) (r : IsAll K Z ρ H vs ds) :
    Ok K Z ρ (S.set i (.oth t ds)) (upd H a (hoOf t vs)) ∧ Ext ρ H ρ (upd H a (hoOf t vs)) := k.write' h hz (c' := .oth t ds) ⟨upd_same, w⟩ r
end
end Pv

/-! Pv2: readings by data: what an expression, a test, an argument list, a statement gives, as a function on data and the store. -/
namespace Pv
open PySem PySem.Spec PyProof.Rows L2

/-! ### what is wanted of an outcome -/
def MP {α : Type} (r : R α) (P : α → Sto → Prop) (E : Str → D → Sto → Prop) : Prop := match r with
  | .ok a S => P a S
  | .exc c v S => E c v S
  | .no => False
theorem MP.bind {α β : Type} {m : M α} {f : α → M β} {S : Sto} {P : β → Sto → Prop} {E : Str → D → Sto → Prop} (h : MP ((m >>= f) S) P E) : MP (m S) (fun a S1 => MP (f a S1) P E) E := by
  have h' : MP (M.bind m f S) P E := h
  unfold M.bind at h'
  cases e : m S with
  | ok a S1 => rw [e] at h'; exact h'
  | exc c v S1 => rw [e] at h'; exact h'
  | no => rw [e] at h'; exact h'
theorem MP.pure {α : Type} {a : α} {S : Sto} {P : α → Sto → Prop} {E : Str → D → Sto → Prop} (h : MP ((Pure.pure a : M α) S) P E) : P a S := h
theorem MP.of {α : Type} {o : Option α} {S : Sto} {P : α → Sto → Prop} {E : Str → D → Sto → Prop} (h : MP (M.of o S) P E) : ∃ a, o = some a ∧ P a S := by
  cases o with
  | none => exact h.elim
  | some a => exact ⟨a, rfl, h⟩
theorem MP.imp {α : Type} {r : R α} {P P' : α → Sto → Prop} {E E' : Str → D → Sto → Prop} (h : MP r P E) (hp : ∀ a S, P a S → P' a S) (he : ∀ c v S, E c v S → E' c v S) : MP r P' E' := by
  cases r with
  | ok a S => exact hp a S h
  | exc c v S => exact he c v S h
  | no => exact h

/-! ### slots -/
/-- reading and writing a slot, by the recursors (soon reckoned by the kernel) -/
noncomputable def slot (ds : En) (i : Nat) : Option D := List.rec (motive := fun _ => Nat → Option D) (fun _ => none) (fun x _ ih i => Nat.rec (motive := fun _ => Option D) x (fun j _ => ih j) i) ds i
theorem slot_eq : ∀ (ds : En) (i : Nat), slot ds i = ds[i]?.join
  | [], _ => rfl
  | _ :: _, 0 => rfl
  | _ :: ds, i + 1 => (show slot ds i = _ from slot_eq ds i).trans (by rw [List.getElem?_cons_succ])
noncomputable def put (ds : En) (i : Nat) (v : Option D) : En := List.rec (motive := fun _ => Nat → En) (fun _ => []) (fun x xs ih i => Nat.rec (motive := fun _ => En) (v :: xs) (fun j _ => x :: ih j) i) ds i
theorem put_eq : ∀ (ds : En) (i : Nat) (v : Option D), put ds i v = ds.set i v
  | [], _, _ => rfl
  | _ :: _, 0, _ => rfl
  | x :: ds, i + 1, v => congrArg (x :: ·) (put_eq ds i v)
structure EnvIs (K : PySem.W.Frag) (Z ρ : List Addr) (H : Hp) (σ : L2.St) (ds : En) : Prop where
  len : ds.length = σ.length
  get : ∀ (i : Nat) (d : D), ds[i]? = some (some d) → ∃ v, σ[i]? = some (some v) ∧ Is K Z ρ H v d
section
variable {K : PySem.W.Frag} {Z Z' ρ ρ' ρ2 : List Addr} {S S' : Sto} {H H' H2 : Hp} {σ : L2.St} {ds : En}
theorem EnvIs.mono (n : EnvIs K Z ρ H σ ds) (k : Ok K Z ρ S H) (e : Ext ρ H ρ' H') : EnvIs K Z ρ' H' σ ds := ⟨n.len, fun i d h => let ⟨v, a, b⟩ := n.get i d h; ⟨v, a, b.mono k e⟩⟩
theorem EnvIs.set (n : EnvIs K Z ρ H σ ds) {v : V} {d : D} (i : Nat) (h : Is K Z ρ H v d) : EnvIs K Z ρ H (σ.set i (some v)) (ds.set i (some d)) := by
  refine ⟨by rw [List.length_set, List.length_set]; exact n.len, fun j x e => ?_⟩
  by_cases hj : i = j
  · subst hj
    by_cases hl : i < ds.length
    · rw [List.getElem?_set_self hl] at e
      cases e
      exact ⟨v, by rw [List.getElem?_set_self (by rw [← n.len]; exact hl)], h⟩
    · rw [List.getElem?_eq_none (by rw [List.length_set]; omega)] at e; cases e
  · rw [List.getElem?_set_ne hj] at e
    rw [List.getElem?_set_ne hj]
    exact n.get j x e
theorem EnvIs.put (n : EnvIs K Z ρ H σ ds) {v : V} {d : D} (i : Nat) (h : Is K Z ρ H v d) : EnvIs K Z ρ H (σ.set i (some v)) (Pv.put ds i (some d)) := by rw [put_eq]; exact n.set i h
end

/-! ### the wish about exceptions: closed under growth -/
structure Wsh (K : PySem.W.Frag) where
  P : List Addr → List Addr → Hp → L2.St → En → Str → D → Sto → Prop
  up : ∀ {Z ρ H σ ds c v S S' ρ' H'}, Ok K Z ρ S' H → Ext ρ H ρ' H' → P Z ρ H σ ds c v S → P Z ρ' H' σ ds c v S
def W0 (K : PySem.W.Frag) : Wsh K := ⟨fun _ _ _ _ _ _ _ _ => False, fun _ _ h => h⟩
abbrev EM := En → M D
abbrev TM := En → M Bool
abbrev AM := En → M (List D)
section
variable (K : PySem.W.Frag) (W : Wsh K)
/-- the end of a value -/
def Pt (Z ρ : List Addr) (H : Hp) (Q : VK) (d : D) (S : Sto) : Prop := ∀ ρ' H' v, Ext ρ H ρ' H' → Ok K Z ρ' S H' → Is K Z ρ' H' v d → Q v H'
def PtB (Z ρ : List Addr) (H : Hp) (Q : Bool → Hp → Prop) (b : Bool) (S : Sto) : Prop := ∀ ρ' H', Ext ρ H ρ' H' → Ok K Z ρ' S H' → Q b H'
def PtA (Z ρ : List Addr) (H : Hp) (Q : List V → Hp → Prop) (ds : List D) (S : Sto) : Prop := ∀ ρ' H' vs, Ext ρ H ρ' H' → Ok K Z ρ' S H' → IsAll K Z ρ' H' vs ds → Q vs H'
/-- the start -/
structure At (Z ρ : List Addr) (S : Sto) (H : Hp) (σ : L2.St) (ds : En) : Prop where
  ok : Ok K Z ρ S H
  env : EnvIs K Z ρ H σ ds
def tE (m : EM) : TE := fun σ H Q => ∃ Z ρ S ds, At K Z ρ S H σ ds ∧ MP (m ds S) (Pt K Z ρ H Q) (W.P Z ρ H σ ds)
def tT (m : TM) : TT := fun σ H Q => ∃ Z ρ S ds, At K Z ρ S H σ ds ∧ MP (m ds S) (PtB K Z ρ H Q) (W.P Z ρ H σ ds)
def tA (m : AM) : TA := fun σ H Q => ∃ Z ρ S ds, At K Z ρ S H σ ds ∧ MP (m ds S) (PtA K Z ρ H Q) (W.P Z ρ H σ ds)
end
section
variable {K : PySem.W.Frag} {W : Wsh K} {Z ρ ρ' : List Addr} {S S' S1 : Sto} {H H' : Hp} {σ : L2.St} {ds : En} {Q Q' : VK}
theorem At.up (t : At K Z ρ S H σ ds) (e : Ext ρ H ρ' H') (k : Ok K Z ρ' S' H') : At K Z ρ' S' H' σ ds := ⟨k, t.env.mono t.ok e⟩
/-- from here on, the end seen from further on -/
theorem Pt.up (e : Ext ρ H ρ' H') {d : D} (h : Pt K Z ρ H Q d S) : Pt K Z ρ' H' Q d S := fun ρ2 H2 v e2 k i => h ρ2 H2 v (e.trans e2) k i
theorem PtB.up (e : Ext ρ H ρ' H') {Q : Bool → Hp → Prop} {b : Bool} (h : PtB K Z ρ H Q b S) : PtB K Z ρ' H' Q b S := fun ρ2 H2 e2 k => h ρ2 H2 (e.trans e2) k
theorem PtA.up (e : Ext ρ H ρ' H') {Q : List V → Hp → Prop} {d : List D} (h : PtA K Z ρ H Q d S) : PtA K Z ρ' H' Q d S := fun ρ2 H2 v e2 k i => h ρ2 H2 v (e.trans e2) k i
theorem Pt.here {d : D} {v : V} (h : Pt K Z ρ H Q d S) (k : Ok K Z ρ S H) (i : Is K Z ρ H v d) : Q v H := h ρ H v Ext.refl k i
end

/-! ### rules: the data reading stands over HandS' reading -/
def PEm (X : Cx) (W : Wsh X.K) (e : Expr) (m : EM) : Prop := PE X e (tE X.K W m)
def PTm (X : Cx) (W : Wsh X.K) (e : Expr) (m : TM) : Prop := PT X e (tT X.K W m)
def PAm (X : Cx) (W : Wsh X.K) (es : List Expr) (m : AM) : Prop := PA X es (tA X.K W m)
theorem PE.imp {X : Cx} {e : Expr} {t t' : TE} (h : PE X e t) (i : ∀ σ H Q, t' σ H Q → t σ H Q) : PE X e t' := ⟨fun pins s σ H Q I q => h.run pins s σ H Q I (i σ H Q q)⟩
theorem PT.imp {X : Cx} {e : Expr} {t t' : TT} (h : PT X e t) (i : ∀ σ H Q, t' σ H Q → t σ H Q) : PT X e t' := ⟨fun pins s σ H Q I q => h.run pins s σ H Q I (i σ H Q q)⟩
theorem PA.imp {X : Cx} {es : List Expr} {t t' : TA} (h : PA X es t) (i : ∀ σ H Q, t' σ H Q → t σ H Q) : PA X es t' := ⟨fun pos pins s σ H Q I q => h.run pos pins s σ H Q I (i σ H Q q)⟩
section
variable {X : Cx} {W : Wsh X.K} {e a b : Expr} {es : List Expr} {m ma mb : EM} {pos : Pos}
/-- a constant -/
theorem em_const {v : V} {d : D} (hv : PE X e (tC v)) (hd : ∀ Z ρ H, Is X.K Z ρ H v d) : PEm X W e (fun _ => pure d) :=
  PE.imp hv fun σ H Q ⟨Z, ρ, S, ds, t, h⟩ => (MP.pure h : Pt _ _ _ _ _ _ _).here t.ok (hd Z ρ H)
/-- a slot -/
theorem em_var {i : Nat} (hv : PE X e (tVar i)) : PEm X W e (fun ds => M.of (ds[i]?.join)) :=
  PE.imp hv fun σ H Q ⟨Z, ρ, S, ds, t, h⟩ => by
    obtain ⟨d, e1, q⟩ := MP.of h
    have e2 : ds[i]? = some (some d) := by
      cases q : ds[i]? with
      | none => rw [q] at e1; cases e1
      | some o => rw [q] at e1; exact congrArg some e1
    obtain ⟨v, h1, h2⟩ := t.env.get i d e2
    exact ⟨v, h1, q.here t.ok h2⟩
/-- one step behind another -/
theorem tE_bind {σ : L2.St} {H : Hp} {ds : En} {Z ρ : List Addr} {S : Sto} {α : Type} {g : D → M α} {P : α → Sto → Prop} (t : At X.K Z ρ S H σ ds) (h : MP ((ma ds >>= g) S) P (W.P Z ρ H σ ds))
    {R : VK} (k : ∀ d S1 ρ1 H1 v, Ext ρ H ρ1 H1 → At X.K Z ρ1 S1 H1 σ ds → Is X.K Z ρ1 H1 v d → MP (g d S1) P (W.P Z ρ1 H1 σ ds) → R v H1) : tE X.K W ma σ H R :=
  ⟨Z, ρ, S, ds, t, (MP.bind h).imp (fun d S1 q ρ1 H1 v e1 k1 i => k d S1 ρ1 H1 v e1 (t.up e1 k1) i (q.imp (fun _ _ z => z) fun _ _ _ z => W.up t.ok e1 z)) fun _ _ _ z => z⟩
/-- what does not raise: data and the store in, the same out -/
def M.lift {α : Type} (f : Sto → Option (α × Sto)) : M α := fun S => match f S with
  | some (a, S') => .ok a S'
  | none => .no
theorem MP.lift {α : Type} {f : Sto → Option (α × Sto)} {S : Sto} {P : α → Sto → Prop} {E : Str → D → Sto → Prop} (h : MP (M.lift f S) P E) : ∃ a S', f S = some (a, S') ∧ P a S' := by
  unfold M.lift at h
  cases e : f S with
  | none => rw [e] at h; exact h.elim
  | some p =>
    obtain ⟨a, S'⟩ := p
    rw [e] at h
    exact ⟨a, S', rfl, h⟩
abbrev F1 := D → Sto → Option (D × Sto)
abbrev F2 := D → D → Sto → Option (D × Sto)
abbrev FA := List D → Sto → Option (D × Sto)
/-- what an operation on two values must do -/
def OpD (K : PySem.W.Frag) (r : R2) (f : F2) : Prop := ∀ (Z ρ : List Addr) (S S' : Sto) (H : Hp) (x y : V) (dx dy d : D) (Q : VK), Ok K Z ρ S H → Is K Z ρ H x dx → Is K Z ρ H y dy →
  f dx dy S = some (d, S') → Pt K Z ρ H Q d S' → r x y H Q
def UnD (K : PySem.W.Frag) (r : V → Hp → VK → Prop) (f : F1) : Prop := ∀ (Z ρ : List Addr) (S S' : Sto) (H : Hp) (x : V) (dx d : D) (Q : VK), Ok K Z ρ S H → Is K Z ρ H x dx →
  f dx S = some (d, S') → Pt K Z ρ H Q d S' → r x H Q
def CallD (K : PySem.W.Frag) (r : List V → Hp → VK → Prop) (f : FA) : Prop := ∀ (Z ρ : List Addr) (S S' : Sto) (H : Hp) (xs : List V) (ds : List D) (d : D) (Q : VK), Ok K Z ρ S H → IsAll K Z ρ H xs ds →
  f ds S = some (d, S') → Pt K Z ρ H Q d S' → r xs H Q
/-- a op b -/
def mBin (f : F2) (ma mb : EM) : EM := fun ds => ma ds >>= fun x => mb ds >>= fun y => M.lift (f x y)
theorem tOp_of {r : R2} {f : F2} (hf : OpD X.K r f) {σ : L2.St} {H : Hp} {Q : VK} (h : tE X.K W (mBin f ma mb) σ H Q) : tOp r (tE X.K W ma) (tE X.K W mb) σ H Q := by
  obtain ⟨Z, ρ, S, ds, t, h⟩ := h
  refine tE_bind t h fun d1 S1 ρ1 H1 v1 e1 t1 i1 q1 => ?_
  refine tE_bind t1 q1 fun d2 S2 ρ2 H2 v2 e2 t2 i2 q2 => ?_
  obtain ⟨d, S3, e3, q3⟩ := MP.lift q2
  exact hf Z ρ2 S2 S3 H2 v1 v2 d1 d2 d Q t2.ok (i1.mono t1.ok e2) i2 e3 (q3.up (e1.trans e2))
theorem em_op {op : Operator} {r : R2} {f : F2} (ho : OpR X (binaryOp op) r) (hf : OpD X.K r f) (ha : PEm X W a ma) (hb : PEm X W b mb) : PEm X W (.BinOp a op b pos) (mBin f ma mb) :=
  PE.imp (pe_op ho ha hb) fun _ _ _ h => tOp_of hf h
theorem em_cmp {op : CmpOp} {r : R2} {f : F2} (ho : OpR X (compareOp op) r) (hf : OpD X.K r f) (ha : PEm X W a ma) (hb : PEm X W b mb) (hm : behindInMarks op b = false) : PEm X W (.Compare a [op] [b] pos) (mBin f ma mb) :=
  PE.imp (pe_cmpR ho ha hb hm) fun _ _ _ h => tOp_of hf h
def mUn (f : F1) (ma : EM) : EM := fun ds => ma ds >>= fun x => M.lift (f x)
theorem tUn_of {r : V → Hp → VK → Prop} {f : F1} (hf : UnD X.K r f) {σ : L2.St} {H : Hp} {Q : VK} (h : tE X.K W (mUn f ma) σ H Q) : tUn r (tE X.K W ma) σ H Q := by
  obtain ⟨Z, ρ, S, ds, t, h⟩ := h
  refine tE_bind t h fun d1 S1 ρ1 H1 v1 e1 t1 i1 q1 => ?_
  obtain ⟨d, S3, e3, q3⟩ := MP.lift q1
  exact hf Z ρ1 S1 S3 H1 v1 d1 d Q t1.ok i1 e3 (q3.up e1)
theorem em_un {op : UnaryOp} {r : V → Hp → VK → Prop} {f : F1} (ho : UnR X (unaryOp op) r) (hf : UnD X.K r f) (ha : PEm X W a ma) : PEm X W (.UnaryOp op a pos) (mUn f ma) :=
  PE.imp (pe_un ho ha) fun _ _ _ h => tUn_of hf h
end
/-! ### tests, bools -/
section
variable {X : Cx} {W : Wsh X.K} {e a b c : Expr} {es rest : List Expr} {m ma mb : EM} {mt mu : TM} {pos : Pos}
theorem tT_bind {σ : L2.St} {H : Hp} {ds : En} {Z ρ : List Addr} {S : Sto} {α : Type} {g : Bool → M α} {P : α → Sto → Prop} (t : At X.K Z ρ S H σ ds) (h : MP ((mt ds >>= g) S) P (W.P Z ρ H σ ds))
    {R : Bool → Hp → Prop} (k : ∀ d S1 ρ1 H1, Ext ρ H ρ1 H1 → At X.K Z ρ1 S1 H1 σ ds → MP (g d S1) P (W.P Z ρ1 H1 σ ds) → R d H1) : tT X.K W mt σ H R :=
  ⟨Z, ρ, S, ds, t, (MP.bind h).imp (fun d S1 q ρ1 H1 e1 k1 => k d S1 ρ1 H1 e1 (t.up e1 k1) (q.imp (fun _ _ z => z) fun _ _ _ z => W.up t.ok e1 z)) fun _ _ _ z => z⟩
theorem tE_to {ma' : EM} {σ : L2.St} {H : Hp} {ds : En} {Z ρ ρ1 : List Addr} {S1 : Sto} {H1 : Hp} {Q : VK} (t1 : At X.K Z ρ1 S1 H1 σ ds) (e1 : Ext ρ H ρ1 H1) (h : MP (ma' ds S1) (Pt X.K Z ρ H Q) (W.P Z ρ1 H1 σ ds)) : tE X.K W ma' σ H1 Q :=
  ⟨Z, ρ1, S1, ds, t1, h.imp (fun _ _ q => q.up e1) fun _ _ _ z => z⟩
theorem tT_to {ma' : TM} {σ : L2.St} {H : Hp} {ds : En} {Z ρ ρ1 : List Addr} {S1 : Sto} {H1 : Hp} {Q : Bool → Hp → Prop} (t1 : At X.K Z ρ1 S1 H1 σ ds) (e1 : Ext ρ H ρ1 H1) (h : MP (ma' ds S1) (PtB X.K Z ρ H Q) (W.P Z ρ1 H1 σ ds)) : tT X.K W ma' σ H1 Q :=
  ⟨Z, ρ1, S1, ds, t1, h.imp (fun _ _ q => q.up e1) fun _ _ _ z => z⟩
def PWm (X : Cx) (W : Wsh X.K) (e : Expr) (m : TM) : Prop := PW X e (tT X.K W m)
theorem PW.imp {e : Expr} {t t' : TT} (h : PW X e t) (i : ∀ σ H Q, t' σ H Q → t σ H Q) : PW X e t' := ⟨fun wh pins s σ H Q I q => h.run wh pins s σ H Q I (i σ H Q q)⟩
def mAnd (mt mu : TM) : TM := fun ds => mt ds >>= fun c => if c = true then mu ds else pure false
def mOr (mt mu : TM) : TM := fun ds => mt ds >>= fun c => if c = true then pure true else mu ds
def mNot (mt : TM) : TM := fun ds => mt ds >>= fun c => pure (!c)
theorem wm_and1 (h : PTm X W a mt) : PWm X W (.BoolOp .And [a] pos) mt := pw_and1 h
theorem wm_or1 (h : PTm X W a mt) : PWm X W (.BoolOp .Or [a] pos) mt := pw_or1 h
theorem wm_and (ha : PTm X W a mt) (hb : PWm X W (.BoolOp .And (b :: rest) pos) mu) : PWm X W (.BoolOp .And (a :: b :: rest) pos) (mAnd mt mu) :=
  PW.imp (pw_and ha hb) fun σ H Q ⟨Z, ρ, S, ds, t, h⟩ => tT_bind t h fun d S1 ρ1 H1 e1 t1 q => by
    cases d with
    | true => rw [if_pos rfl] at q ⊢; exact tT_to t1 e1 q
    | false => rw [if_neg Bool.false_ne_true] at q ⊢; exact (MP.pure q : PtB _ _ _ _ _ _ _) ρ1 H1 e1 t1.ok
theorem wm_or (ha : PTm X W a mt) (hb : PWm X W (.BoolOp .Or (b :: rest) pos) mu) : PWm X W (.BoolOp .Or (a :: b :: rest) pos) (mOr mt mu) :=
  PW.imp (pw_or ha hb) fun σ H Q ⟨Z, ρ, S, ds, t, h⟩ => tT_bind t h fun d S1 ρ1 H1 e1 t1 q => by
    cases d with
    | true => rw [if_pos rfl] at q ⊢; exact (MP.pure q : PtB _ _ _ _ _ _ _) ρ1 H1 e1 t1.ok
    | false => rw [if_neg Bool.false_ne_true] at q ⊢; exact tT_to t1 e1 q
theorem tm_w (h : PWm X W e mt) : PTm X W e mt := h.pt
theorem tm_not (ha : PTm X W a mt) : PTm X W (.UnaryOp .Not a pos) (mNot mt) :=
  PT.imp (pt_not ha) fun σ H Q ⟨Z, ρ, S, ds, t, h⟩ => tT_bind t h fun d S1 ρ1 H1 e1 t1 q => (MP.pure q : PtB _ _ _ _ _ _ _) ρ1 H1 e1 t1.ok
/-- a bool's own value as a test -/
def mBool (ma : EM) : TM := fun ds => ma ds >>= fun x => match x with
  | .bl c => pure c
  | _ => stuck
theorem tB_of {σ : L2.St} {H : Hp} {Q : Bool → Hp → Prop} (h : tT X.K W (mBool ma) σ H Q) : tE X.K W ma σ H fun x H1 => ∃ c, x = .bl c ∧ Q c H1 := by
  obtain ⟨Z, ρ, S, ds, t, h⟩ := h
  refine tE_bind t h fun d S1 ρ1 H1 v e1 t1 i q => ?_
  cases i with
  | bl b => exact ⟨b, rfl, (MP.pure q : PtB _ _ _ _ _ _ _) ρ1 H1 e1 t1.ok⟩
  | _ => exact q.elim
theorem tm_cmp {op : CmpOp} {r : R2} {f : F2} (ho : OpR X (compareOp op) r) (hf : OpD X.K r f) (ha : PEm X W a ma) (hb : PEm X W b mb) (hm : behindInMarks op b = false) : PTm X W (.Compare a [op] [b] pos) (mBool (mBin f ma mb)) :=
  PT.imp (pt_cmpR ho ha hb hm) fun _ _ _ h => tOp_of hf (by
    obtain ⟨Z, ρ, S, ds, t, h⟩ := h
    refine ⟨Z, ρ, S, ds, t, (MP.bind h).imp (fun d S1 q ρ1 H1 v e1 k i => ?_) fun _ _ _ z => z⟩
    cases i with
    | bl b => exact ⟨b, rfl, (MP.pure q : PtB _ _ _ _ _ _ _) ρ1 H1 e1 k⟩
    | _ => exact q.elim)
/-- an expression whose value is a bool, as a test -/
theorem tm_val (ha : PEm X W e ma) (he : ∀ whole, isTrue e X.env whole = (do let v ← whole; standAt e.pos; holding [v] (truthy v)) := by intro _; rfl) : PTm X W e (mBool ma) :=
  PT.imp (pt_val ha he) fun _ _ _ h => tB_of h
/-- .. as values -/
def mAndV (ma mb : EM) : EM := fun ds => mBool ma ds >>= fun c => if c = true then mb ds else pure (.bl false)
def mOrV (ma mb : EM) : EM := fun ds => mBool ma ds >>= fun c => if c = true then pure (.bl true) else mb ds
def mNotV (ma : EM) : EM := fun ds => mBool ma ds >>= fun c => pure (.bl (!c))
theorem tE_bindB {σ : L2.St} {H : Hp} {ds : En} {Z ρ : List Addr} {S : Sto} {α : Type} {g : Bool → M α} {P : α → Sto → Prop} (t : At X.K Z ρ S H σ ds) (h : MP ((mBool ma ds >>= g) S) P (W.P Z ρ H σ ds))
    {R : VK} (k : ∀ d S1 ρ1 H1, Ext ρ H ρ1 H1 → At X.K Z ρ1 S1 H1 σ ds → MP (g d S1) P (W.P Z ρ1 H1 σ ds) → R (.bl d) H1) : tE X.K W ma σ H R := by
  have h1 := MP.bind (MP.bind h)
  refine ⟨Z, ρ, S, ds, t, h1.imp (fun d S1 q ρ1 H1 v e1 k1 i => ?_) fun _ _ _ z => z⟩
  cases i with
  | bl b => exact k b S1 ρ1 H1 e1 (t.up e1 k1) ((MP.pure q : MP (g b S1) P (W.P Z ρ H σ ds)).imp (fun _ _ z => z) fun _ _ _ z => W.up t.ok e1 z)
  | _ => exact q.elim
theorem em_one {op} (h : PEm X W a ma) : PEm X W (.BoolOp op [a] pos) ma := pe_one h
theorem em_and (ha : PEm X W a ma) (hb : PEm X W (.BoolOp .And (b :: rest) pos) mb) : PEm X W (.BoolOp .And (a :: b :: rest) pos) (mAndV ma mb) :=
  PE.imp (pe_and ha hb) fun σ H Q ⟨Z, ρ, S, ds, t, h⟩ => tE_bindB t h fun d S1 ρ1 H1 e1 t1 q => ⟨d, rfl, by
    cases d with
    | true => rw [if_pos rfl] at q ⊢; exact tE_to t1 e1 q
    | false => rw [if_neg Bool.false_ne_true] at q ⊢; exact (MP.pure q : Pt _ _ _ _ _ _ _) ρ1 H1 _ e1 t1.ok (.bl false)⟩
theorem em_or (ha : PEm X W a ma) (hb : PEm X W (.BoolOp .Or (b :: rest) pos) mb) : PEm X W (.BoolOp .Or (a :: b :: rest) pos) (mOrV ma mb) :=
  PE.imp (pe_or ha hb) fun σ H Q ⟨Z, ρ, S, ds, t, h⟩ => tE_bindB t h fun d S1 ρ1 H1 e1 t1 q => ⟨d, rfl, by
    cases d with
    | true => rw [if_pos rfl] at q ⊢; exact (MP.pure q : Pt _ _ _ _ _ _ _) ρ1 H1 _ e1 t1.ok (.bl true)
    | false => rw [if_neg Bool.false_ne_true] at q ⊢; exact tE_to t1 e1 q⟩
theorem em_not (ha : PEm X W a ma) : PEm X W (.UnaryOp .Not a pos) (mNotV ma) :=
  PE.imp (pe_not ha) fun σ H Q ⟨Z, ρ, S, ds, t, h⟩ => tE_bindB t h fun d S1 ρ1 H1 e1 t1 q => ⟨d, rfl, (MP.pure q : Pt _ _ _ _ _ _ _) ρ1 H1 _ e1 t1.ok (.bl (!d))⟩
def mIf (mt : TM) (ma mb : EM) : EM := fun ds => mt ds >>= fun c => if c = true then ma ds else mb ds
theorem em_ifExp (hc : PTm X W c mt) (ha : PEm X W a ma) (hb : PEm X W b mb) : PEm X W (.IfExp c a b pos) (mIf mt ma mb) :=
  PE.imp (pe_ifExp hc ha hb) fun σ H Q ⟨Z, ρ, S, ds, t, h⟩ => tT_bind t h fun d S1 ρ1 H1 e1 t1 q => by
    cases d with
    | true => rw [if_pos rfl] at q ⊢; exact tE_to t1 e1 q
    | false => rw [if_neg Bool.false_ne_true] at q ⊢; exact tE_to t1 e1 q
/-- a op1 b op2 c -/
def mChain (f g : F2) (ma mb mc : EM) : EM := fun ds => ma ds >>= fun x => mb ds >>= fun y => M.lift (f x y) >>= fun z => match z with
  | .bl true => mc ds >>= fun w => M.lift (g y w)
  | .bl false => pure (.bl false)
  | _ => stuck
theorem tChain_of {r r' : R2} {f g : F2} {mc : EM} (hf : OpD X.K r f) (hg : OpD X.K r' g) {σ : L2.St} {H : Hp} {Q : VK} (h : tE X.K W (mChain f g ma mb mc) σ H Q) : tChain r r' (tE X.K W ma) (tE X.K W mb) (tE X.K W mc) σ H Q := by
  obtain ⟨Z, ρ, S, ds, t, h⟩ := h
  refine tE_bind t h fun d1 S1 ρ1 H1 v1 e1 t1 i1 q1 => ?_
  refine tE_bind t1 q1 fun d2 S2 ρ2 H2 v2 e2 t2 i2 q2 => ?_
  obtain ⟨d3, S3, e3, q3⟩ := MP.lift (MP.bind q2)
  refine hf Z ρ2 S2 S3 H2 v1 v2 d1 d2 d3 _ t2.ok (i1.mono t1.ok e2) i2 e3 fun ρ3 H3 v3 e4 k3 i3 => ?_
  have t3 := t2.up e4 k3
  cases i3 with
  | bl b =>
    refine ⟨b, rfl, ?_⟩
    cases b with
    | false => exact (MP.pure q3 : Pt _ _ _ _ _ _ _) ρ3 H3 _ ((e1.trans e2).trans e4) k3 (.bl false)
    | true =>
      rw [if_pos rfl]
      refine tE_bind t3 (q3.imp (fun _ _ z => z) fun _ _ _ z => W.up t2.ok e4 z) fun d4 S4 ρ4 H4 v4 e5 t4 i4 q4 => ?_
      obtain ⟨d5, S5, e6, q5⟩ := MP.lift q4
      exact hg Z ρ4 S4 S5 H4 v2 v4 d2 d4 d5 Q t4.ok (i2.mono t2.ok (e4.trans e5)) i4 e6 (q5.up (((e1.trans e2).trans e4).trans e5))
  | _ => exact q3.elim
theorem em_chain {op op' : CmpOp} {r r' : R2} {f g : F2} {mc : EM} (ho : OpR X (compareOp op) r) (ho' : OpR X (compareOp op') r') (hf : OpD X.K r f) (hg : OpD X.K r' g) (ha : PEm X W a ma) (hb : PEm X W b mb) (hc : PEm X W c mc)
    (hm : lastMarks [op, op'] [b, c] = false) : PEm X W (.Compare a [op, op'] [b, c] pos) (mChain f g ma mb mc) :=
  PE.imp (pe_chain ho ho' ha hb hc hm) fun _ _ _ h => tChain_of hf hg h
theorem tm_chain {op op' : CmpOp} {r r' : R2} {f g : F2} {mc : EM} (ho : OpR X (compareOp op) r) (ho' : OpR X (compareOp op') r') (hf : OpD X.K r f) (hg : OpD X.K r' g) (ha : PEm X W a ma) (hb : PEm X W b mb) (hc : PEm X W c mc)
    (hm : lastMarks [op, op'] [b, c] = false) : PTm X W (.Compare a [op, op'] [b, c] pos) (mBool (mChain f g ma mb mc)) :=
  PT.imp (pt_chain ho ho' ha hb hc hm) fun _ _ _ h => tChain_of hf hg (by
    obtain ⟨Z, ρ, S, ds, t, h⟩ := h
    refine ⟨Z, ρ, S, ds, t, (MP.bind h).imp (fun d S1 q ρ1 H1 v e1 k i => ?_) fun _ _ _ z => z⟩
    cases i with
    | bl b => exact ⟨b, rfl, (MP.pure q : PtB _ _ _ _ _ _ _) ρ1 H1 e1 k⟩
    | _ => exact q.elim)
/-! ### argument lists, displays, calls of what is built in -/
variable {ms : AM}
def mNil : AM := fun _ => pure []
def mCons (ma : EM) (ms : AM) : AM := fun ds => ma ds >>= fun x => ms ds >>= fun xs => pure (x :: xs)
theorem am_nil : PAm X W [] mNil := PA.imp pa_nil fun σ H Q ⟨Z, ρ, S, ds, t, h⟩ => (MP.pure h : PtA _ _ _ _ _ _ _) ρ H [] Ext.refl t.ok .nil
theorem tA_bind {σ : L2.St} {H : Hp} {ds : En} {Z ρ : List Addr} {S : Sto} {α : Type} {g : List D → M α} {P : α → Sto → Prop} (t : At X.K Z ρ S H σ ds) (h : MP ((ms ds >>= g) S) P (W.P Z ρ H σ ds))
    {R : List V → Hp → Prop} (k : ∀ d S1 ρ1 H1 v, Ext ρ H ρ1 H1 → At X.K Z ρ1 S1 H1 σ ds → IsAll X.K Z ρ1 H1 v d → MP (g d S1) P (W.P Z ρ1 H1 σ ds) → R v H1) : tA X.K W ms σ H R :=
  ⟨Z, ρ, S, ds, t, (MP.bind h).imp (fun d S1 q ρ1 H1 v e1 k1 i => k d S1 ρ1 H1 v e1 (t.up e1 k1) i (q.imp (fun _ _ z => z) fun _ _ _ z => W.up t.ok e1 z)) fun _ _ _ z => z⟩
theorem am_cons (ha : PEm X W e ma) (hr : PAm X W es ms) (hs : starEach (e :: es) X.env = (false, eval e X.env) :: starEach es X.env := by rfl) : PAm X W (e :: es) (mCons ma ms) :=
  PA.imp (pa_cons ha hr hs) fun σ H Q ⟨Z, ρ, S, ds, t, h⟩ => tE_bind t h fun d S1 ρ1 H1 v e1 t1 i q => tA_bind t1 q fun d2 S2 ρ2 H2 v2 e2 t2 i2 q2 =>
    (MP.pure q2 : PtA _ _ _ _ _ _ _) ρ2 H2 _ (e1.trans e2) t2.ok (.cons (i.mono t1.ok e2) i2)
def mTup (ms : AM) : EM := fun ds => ms ds >>= fun xs => M.of (if xs.length ≤ 1000000 then some (.tup xs) else none)
def mLst (ms : AM) : EM := fun ds => ms ds >>= fun xs => M.of (if xs.length ≤ 1000000 then some (.lst xs) else none)
/-- a list that is to change -/
def newCell (xs : List D) : Sto → Option (D × Sto) := fun S => if xs.length ≤ 1000000 then some (.cell S.length, S ++ [.lst xs]) else none
def mCell (ms : AM) : EM := fun ds => ms ds >>= fun xs => M.lift (newCell xs)
theorem of_if {α : Type} {c : Prop} [Decidable c] {a b : α} (h : (if c then some a else none) = some b) : c ∧ a = b := by
  by_cases hc : c
  · rw [if_pos hc] at h; exact ⟨hc, Option.some.inj h⟩
  · rw [if_neg hc] at h; cases h
theorem sz {n : Nat} (h : n ≤ 1000000) : n ≤ sizeLine := by rw [sizeLine_eq]; omega
theorem em_tup {k} (h : PAm X W es ms) : PEm X W (.Tuple es k pos) (mTup ms) :=
  PE.imp (pe_tup h) fun σ H Q ⟨Z, ρ, S, ds, t, h⟩ => tA_bind t h fun xs S1 ρ1 H1 vs e1 t1 i q => by
    obtain ⟨d, e2, q2⟩ := MP.of q
    obtain ⟨hz, rfl⟩ := of_if e2
    exact ⟨by rw [i.length]; exact sz hz, fun p hp => q2 ρ1 _ _ (e1.trans (ext_new hp)) (t1.ok.new hp) (new_tup t1.ok hp i)⟩
theorem em_lst (h : PAm X W es ms) : PEm X W (.List es pos) (mLst ms) :=
  PE.imp (pe_lst h) fun σ H Q ⟨Z, ρ, S, ds, t, h⟩ => tA_bind t h fun xs S1 ρ1 H1 vs e1 t1 i q => by
    obtain ⟨d, e2, q2⟩ := MP.of q
    obtain ⟨hz, rfl⟩ := of_if e2
    exact ⟨by rw [i.length]; exact sz hz, fun p hp => q2 ρ1 _ _ (e1.trans (ext_new hp)) (t1.ok.new hp) (new_lst t1.ok hp i)⟩
theorem new_cell {Z ρ : List Addr} {S S' : Sto} {H : Hp} {K : PySem.W.Frag} {xs : List D} {vs : List V} {d : D} {Q : VK} (k : Ok K Z ρ S H) (i : IsAll K Z ρ H vs xs) (h : newCell xs S = some (d, S')) (q : Pt K Z ρ H Q d S') :
    vs.length ≤ sizeLine ∧ ∀ p, H p = none → Q (.ref p) (upd H p (.lst vs)) := by
  obtain ⟨hz, e⟩ := of_if h
  cases e
  refine ⟨by rw [i.length]; exact sz hz, fun p hp => ?_⟩
  obtain ⟨k2, e2, i2⟩ := k.cell_of hp i
  exact q _ _ _ e2 k2 i2
theorem em_cell (h : PAm X W es ms) : PEm X W (.List es pos) (mCell ms) :=
  PE.imp (pe_lst h) fun σ H Q ⟨Z, ρ, S, ds, t, h⟩ => tA_bind t h fun xs S1 ρ1 H1 vs e1 t1 i q => by
    obtain ⟨d, S2, e2, q2⟩ := MP.lift q
    exact new_cell t1.ok i e2 (q2.up e1)
def mCall (f : FA) (ms : AM) : EM := fun ds => ms ds >>= fun xs => M.lift (f xs)
theorem tCB_of {r : List V → Hp → VK → Prop} {f : FA} (hf : CallD X.K r f) {σ : L2.St} {H : Hp} {Q : VK} (h : tE X.K W (mCall f ms) σ H Q) : tCB r (tA X.K W ms) σ H Q := by
  obtain ⟨Z, ρ, S, ds, t, h⟩ := h
  exact tA_bind t h fun xs S1 ρ1 H1 vs e1 t1 i q => by
    obtain ⟨d, S2, e2, q2⟩ := MP.lift q
    exact hf Z ρ1 S1 S2 H1 vs xs d Q t1.ok i e2 (q2.up e1)
end
end Pv

/-! Pv3: the operations on data. -/
namespace Pv
open PySem PySem.Spec PyProof.Rows L2

/-! ### data as the library's data: equality -/
mutual
def toPy : D → Option PyData
  | .non => some .none
  | .bl b => some (.bool b)
  | .int i => some (.int i)
  | .str x => some (.str x)
  | .tup xs => (toPyAll xs).map .tuple
  | .lst xs => (toPyAll xs).map .list
  | .cell _ => none
  | .ty _ => none
  | .scr _ => none
  | .oth _ _ => none
def toPyAll : List D → Option (List PyData)
  | [] => some []
  | x :: xs => match toPy x, toPyAll xs with
    | some p, some ps => some (p :: ps)
    | _, _ => none
end
mutual
/-- plain data, its texts of signs that there are -/
def pln : D → Bool
  | .non => true
  | .bl _ => true
  | .int _ => true
  | .str x => x.cps.toList.all fun c => decide (c < 1114112)
  | .tup xs => plnAll xs
  | .lst xs => plnAll xs
  | .cell _ => false
  | .ty _ => false
  | .scr _ => false
  | .oth _ _ => false
def plnAll : List D → Bool
  | [] => true
  | x :: xs => pln x && plnAll xs
end
mutual
def dep : D → Nat
  | .tup xs => depAll xs + 1
  | .lst xs => depAll xs + 1
  | _ => 0
def depAll : List D → Nat
  | [] => 0
  | x :: xs => max (dep x) (depAll xs)
end
mutual
/-- Python's == -/
def deq : D → D → Bool
  | .non, .non => true
  | .bl a, .bl b => a == b
  | .bl a, .int j => (if a then 1 else 0) == j
  | .int i, .bl b => i == (if b then 1 else 0)
  | .int i, .int j => i == j
  | .str x, .str y => x == y
  | .tup xs, .tup ys => deqAll xs ys
  | .lst xs, .lst ys => deqAll xs ys
  | _, _ => false
def deqAll : List D → List D → Bool
  | [], [] => true
  | x :: xs, y :: ys => deq x y && deqAll xs ys
  | _, _ => false
end
mutual
theorem toPy_of : ∀ (d : D), pln d = true → ∃ p, toPy d = some p ∧ p.canLay0 = true ∧ p.depth = dep d
  | .non, _ => ⟨_, rfl, by simp [PyData.canLay0], by simp [PyData.depth, dep]⟩
  | .bl _, _ => ⟨_, rfl, by simp [PyData.canLay0], by simp [PyData.depth, dep]⟩
  | .int _, _ => ⟨_, rfl, by simp [PyData.canLay0], by simp [PyData.depth, dep]⟩
  | .str x, h => ⟨_, rfl, by
      have h' : (x.cps.toList.all fun c => decide (c < 1114112)) = true := h
      simp only [PyData.canLay0, PyData.strOk]
      rw [← Array.all_toList]
      exact h', by simp [PyData.depth, dep]⟩
  | .tup xs, h => by
    obtain ⟨ps, e, c, z⟩ := toPyAll_of xs h
    exact ⟨.tuple ps, by simp [toPy, e], by simpa [PyData.canLay0] using c, by simp [PyData.depth, dep, z]⟩
  | .lst xs, h => by
    obtain ⟨ps, e, c, z⟩ := toPyAll_of xs h
    exact ⟨.list ps, by simp [toPy, e], by simpa [PyData.canLay0] using c, by simp [PyData.depth, dep, z]⟩
theorem toPyAll_of : ∀ (xs : List D), plnAll xs = true → ∃ ps, toPyAll xs = some ps ∧ PyData.canLayAll0 ps = true ∧ PyData.depthAll ps = depAll xs
  | [], _ => ⟨[], rfl, by simp [PyData.canLayAll0], by simp [PyData.depthAll, depAll]⟩
  | x :: xs, h => by
    have h' : (pln x && plnAll xs) = true := h
    rw [Bool.and_eq_true] at h'
    obtain ⟨p, e, c, z⟩ := toPy_of x h'.1
    obtain ⟨ps, es, cs, zs⟩ := toPyAll_of xs h'.2
    exact ⟨p :: ps, by simp [toPyAll, e, es], by simp [PyData.canLayAll0, c, cs], by simp [PyData.depthAll, depAll, z, zs]⟩
end
mutual
theorem eqv_deq : ∀ (d e : D) (p q : PyData), toPy d = some p → toPy e = some q → PyData.eqv p q = deq d e
  | .tup xs, e, p, q, h1, h2 => by
    cases e with
    | tup ys =>
      simp only [toPy, Option.map_eq_some_iff] at h1 h2
      obtain ⟨ps, e1, rfl⟩ := h1
      obtain ⟨qs, e2, rfl⟩ := h2
      simp only [PyData.eqv, deq]
      exact eqvAll_deq xs ys ps qs e1 e2
    | non => simp only [toPy, Option.map_eq_some_iff] at h1; obtain ⟨ps, e1, rfl⟩ := h1; cases h2; simp [PyData.eqv, deq]
    | bl b => simp only [toPy, Option.map_eq_some_iff] at h1; obtain ⟨ps, e1, rfl⟩ := h1; cases h2; simp [PyData.eqv, deq]
    | int b => simp only [toPy, Option.map_eq_some_iff] at h1; obtain ⟨ps, e1, rfl⟩ := h1; cases h2; simp [PyData.eqv, deq]
    | str b => simp only [toPy, Option.map_eq_some_iff] at h1; obtain ⟨ps, e1, rfl⟩ := h1; cases h2; simp [PyData.eqv, deq]
    | lst ys => simp only [toPy, Option.map_eq_some_iff] at h1 h2; obtain ⟨ps, e1, rfl⟩ := h1; obtain ⟨qs, e2, rfl⟩ := h2; simp [PyData.eqv, deq]
    | cell _ => cases h2
    | ty _ => cases h2
    | scr _ => cases h2
    | oth _ _ => cases h2
  | .lst xs, e, p, q, h1, h2 => by
    cases e with
    | lst ys =>
      simp only [toPy, Option.map_eq_some_iff] at h1 h2
      obtain ⟨ps, e1, rfl⟩ := h1
      obtain ⟨qs, e2, rfl⟩ := h2
      simp only [PyData.eqv, deq]
      exact eqvAll_deq xs ys ps qs e1 e2
    | non => simp only [toPy, Option.map_eq_some_iff] at h1; obtain ⟨ps, e1, rfl⟩ := h1; cases h2; simp [PyData.eqv, deq]
    | bl b => simp only [toPy, Option.map_eq_some_iff] at h1; obtain ⟨ps, e1, rfl⟩ := h1; cases h2; simp [PyData.eqv, deq]
    | int b => simp only [toPy, Option.map_eq_some_iff] at h1; obtain ⟨ps, e1, rfl⟩ := h1; cases h2; simp [PyData.eqv, deq]
    | str b => simp only [toPy, Option.map_eq_some_iff] at h1; obtain ⟨ps, e1, rfl⟩ := h1; cases h2; simp [PyData.eqv, deq]
    | tup ys => simp only [toPy, Option.map_eq_some_iff] at h1 h2; obtain ⟨ps, e1, rfl⟩ := h1; obtain ⟨qs, e2, rfl⟩ := h2; simp [PyData.eqv, deq]
    | cell _ => cases h2
    | ty _ => cases h2
    | scr _ => cases h2
    | oth _ _ => cases h2
  | .non, e, p, q, h1, h2 => by
    cases h1
    cases e <;> first
      | (cases h2; done)
      | (cases h2; simp [PyData.eqv, deq]; done)
      | (simp only [toPy, Option.map_eq_some_iff] at h2; obtain ⟨qs, e2, rfl⟩ := h2; simp [PyData.eqv, deq])
  | .bl b, e, p, q, h1, h2 => by
    cases h1
    cases e <;> first
      | (cases h2; done)
      | (cases h2; simp [PyData.eqv, deq]; done)
      | (simp only [toPy, Option.map_eq_some_iff] at h2; obtain ⟨qs, e2, rfl⟩ := h2; simp [PyData.eqv, deq])
  | .int b, e, p, q, h1, h2 => by
    cases h1
    cases e <;> first
      | (cases h2; done)
      | (cases h2; simp [PyData.eqv, deq]; done)
      | (simp only [toPy, Option.map_eq_some_iff] at h2; obtain ⟨qs, e2, rfl⟩ := h2; simp [PyData.eqv, deq])
  | .str b, e, p, q, h1, h2 => by
    cases h1
    cases e <;> first
      | (cases h2; done)
      | (cases h2; simp [PyData.eqv, deq]; done)
      | (simp only [toPy, Option.map_eq_some_iff] at h2; obtain ⟨qs, e2, rfl⟩ := h2; simp [PyData.eqv, deq])
  | .cell _, _, _, _, h1, _ => by cases h1
  | .ty _, _, _, _, h1, _ => by cases h1
  | .scr _, _, _, _, h1, _ => by cases h1
  | .oth _ _, _, _, _, h1, _ => by cases h1
theorem eqvAll_deq : ∀ (ds es : List D) (ps qs : List PyData), toPyAll ds = some ps → toPyAll es = some qs → PyData.eqvAll ps qs = deqAll ds es
  | [], [], _, _, h1, h2 => by cases h1; cases h2; simp [PyData.eqvAll, deqAll]
  | [], e :: es, ps, qs, h1, h2 => by
    cases h1
    simp only [toPyAll] at h2
    split at h2
    · cases h2; simp [PyData.eqvAll, deqAll]
    · cases h2
  | d :: ds, [], ps, qs, h1, h2 => by
    cases h2
    simp only [toPyAll] at h1
    split at h1
    · cases h1; simp [PyData.eqvAll, deqAll]
    · cases h1
  | d :: ds, e :: es, ps, qs, h1, h2 => by
    simp only [toPyAll] at h1 h2
    split at h1
    · rename_i a b c1 c2
      split at h2
      · rename_i a' b' c1' c2'
        cases h1; cases h2
        simp only [PyData.eqvAll, deqAll]
        rw [eqv_deq d e a a' c1 c1', eqvAll_deq ds es b b' c2 c2']
      · cases h2
    · cases h1
end
mutual
theorem deq_refl : ∀ (d : D), pln d = true → deq d d = true
  | .non, _ => rfl
  | .bl b, _ => by simp [deq]
  | .int b, _ => by simp [deq]
  | .str b, _ => by simp [deq]
  | .tup xs, h => by simp only [deq]; exact deqAll_refl xs h
  | .lst xs, h => by simp only [deq]; exact deqAll_refl xs h
theorem deqAll_refl : ∀ (ds : List D), plnAll ds = true → deqAll ds ds = true
  | [], _ => rfl
  | d :: ds, h => by
    have h' : (pln d && plnAll ds) = true := h
    rw [Bool.and_eq_true] at h'
    simp only [deqAll, deq_refl d h'.1, deqAll_refl ds h'.2, Bool.and_self]
end

/-! ### what a value shows -/
/-- a cell's content, else the value itself -/
def vw (S : Sto) : D → D
  | .cell k => match S[k]? with
    | some (.lst ds) => .lst ds
    | some (.oth t ds) => .oth t ds
    | some (.lck t ds) => .oth t ds
    | some (.lkl ds) => .lst ds
    | none => .cell k
  | .scr ds => .lst ds
  | d => d
section
variable {K : PySem.W.Frag} {Z ρ : List Addr} {S : Sto} {H : Hp} {v : V} {d : D} {ds : List D}
theorem vw_lst (k : Ok K Z ρ S H) (i : Is K Z ρ H v d) (e : vw S d = .lst ds) : ∃ a vs, v = .ref a ∧ SqL K H a vs ∧ IsAll K Z ρ H vs ds := by
  cases i with
  | lst h r => cases e; exact ⟨_, _, rfl, h.seq, r⟩
  | scr h r => cases e; exact ⟨_, _, rfl, h.seq, r⟩
  | cell h =>
    rename_i a n
    simp only [vw] at e
    cases q : S[n]? with
    | none => rw [q] at e; cases e
    | some c =>
      cases c with
      | lst es =>
        rw [q] at e
        cases e
        obtain ⟨vs, h1, r⟩ := k.cell n a _ h q
        exact ⟨a, vs, rfl, SqL.of h1, r⟩
      | oth t es => rw [q] at e; cases e
      | lck t es => rw [q] at e; cases e
      | lkl es =>
        rw [q] at e
        cases e
        obtain ⟨vs, ⟨o, h1⟩, r⟩ := k.cell n a _ h q
        exact ⟨a, vs, rfl, .inl (.inr ⟨o, h1⟩), r⟩
  | _ => cases e
theorem vw_tup (i : Is K Z ρ H v d) (e : vw S d = .tup ds) : ∃ a vs, v = .ref a ∧ SqT K H a vs ∧ IsAll K Z ρ H vs ds := by
  cases i with
  | tup h r => cases e; exact ⟨_, _, rfl, h, r⟩
  | cell h =>
    rename_i a n
    simp only [vw] at e
    cases q : S[n]? with
    | none => rw [q] at e; cases e
    | some c => cases c <;> (rw [q] at e; cases e)
  | _ => cases e
theorem vw_int {n : Int} (i : Is K Z ρ H v d) (e : vw S d = .int n) : v = .int n := by
  cases i with
  | int j => cases e; rfl
  | cell h =>
    rename_i a n
    simp only [vw] at e
    cases q : S[n]? with
    | none => rw [q] at e; cases e
    | some c => cases c <;> (rw [q] at e; cases e)
  | _ => cases e
theorem vw_str {x : Str} (i : Is K Z ρ H v d) (e : vw S d = .str x) : v = .str x := by
  cases i with
  | str j => cases e; rfl
  | cell h =>
    rename_i a n
    simp only [vw] at e
    cases q : S[n]? with
    | none => rw [q] at e; cases e
    | some c => cases c <;> (rw [q] at e; cases e)
  | _ => cases e
mutual
theorem Is.dp : ∀ {v : V} {d : D} {p : PyData}, Is K Z ρ H v d → toPy d = some p → Dp K H v p
  | _, _, _, .non, e => by cases e; exact .non
  | _, _, _, .bl b, e => by cases e; exact .bl b
  | _, _, _, .int b, e => by cases e; exact .int b
  | _, _, _, .str b, e => by cases e; exact .str b
  | _, _, _, .tup h r, e => by
    simp only [toPy, Option.map_eq_some_iff] at e
    obtain ⟨ps, e1, rfl⟩ := e
    exact .tup h (IsAll.dp r e1)
  | _, _, _, .lst h r, e => by
    simp only [toPy, Option.map_eq_some_iff] at e
    obtain ⟨ps, e1, rfl⟩ := e
    exact .lst h.seq (IsAll.dp r e1)
  | _, _, _, .cell _, e => by cases e
  | _, _, _, .ty _, e => by cases e
  | _, _, _, .scr _ _, e => by cases e
  | _, _, _, .oth _ _, e => by cases e
theorem IsAll.dp : ∀ {vs : List V} {ds : List D} {ps : List PyData}, IsAll K Z ρ H vs ds → toPyAll ds = some ps → DpAll K H vs ps
  | _, _, _, .nil, e => by cases e; exact .nil
  | _, _, _, .cons i r, e => by
    simp only [toPyAll] at e
    split at e
    · rename_i a b c1 c2
      cases e
      exact .cons (Is.dp i c1) (IsAll.dp r c2)
    · cases e
end
theorem vw_dp {p : PyData} (k : Ok K Z ρ S H) (i : Is K Z ρ H v d) (e : toPy (vw S d) = some p) : Dp K H v p := by
  cases d with
  | cell n =>
    cases q : vw S (.cell n) with
    | lst es =>
      obtain ⟨a, vs, rfl, h, r⟩ := vw_lst k i q
      rw [q] at e
      simp only [toPy, Option.map_eq_some_iff] at e
      obtain ⟨ps, e1, rfl⟩ := e
      exact .lst h (r.dp e1)
    | cell m => rw [q] at e; cases e
    | ty m => rw [q] at e; cases e
    | scr m => rw [q] at e; cases e
    | oth t m => rw [q] at e; cases e
    | non => simp only [vw] at q; split at q <;> cases q
    | bl _ => simp only [vw] at q; split at q <;> cases q
    | int _ => simp only [vw] at q; split at q <;> cases q
    | str _ => simp only [vw] at q; split at q <;> cases q
    | tup _ => simp only [vw] at q; split at q <;> cases q
  | scr es =>
    obtain ⟨a, vs, rfl, h, r⟩ := vw_lst (S := S) k i rfl
    simp only [vw, toPy, Option.map_eq_some_iff] at e
    obtain ⟨ps, e1, rfl⟩ := e
    exact .lst h (r.dp e1)
  | _ => exact i.dp e
end
end Pv

/-! Pv4: operators. -/
namespace Pv
open PySem PySem.Spec PyProof.Rows L2
/-- a list that is tracked: its items -/
def vl (S : Sto) : D → Option (List D)
  | .lst xs => some xs
  | .cell k => match S[k]? with
    | some (.lst xs) => some xs
    | _ => none
  | _ => none
section
variable {K : PySem.W.Frag} {Z ρ : List Addr} {S : Sto} {H : Hp} {v : V} {d : D} {ds : List D} {vs : List V}
theorem vl_tr (k : Ok K Z ρ S H) (i : Is K Z ρ H v d) (e : vl S d = some ds) : ∃ a vs, v = .ref a ∧ H a = some (.lst vs) ∧ IsAll K Z ρ H vs ds := by
  cases i with
  | lst h r => cases e; exact ⟨_, _, rfl, h.1, r⟩
  | cell h =>
    rename_i a n
    simp only [vl] at e
    cases q : S[n]? with
    | none => rw [q] at e; cases e
    | some c =>
      cases c with
      | lst es =>
        rw [q] at e
        cases e
        obtain ⟨vs, h1, r⟩ := k.cell n a _ h q
        exact ⟨a, vs, rfl, h1, r⟩
      | oth t es => rw [q] at e; cases e
      | lck t es => rw [q] at e; cases e
      | lkl es => rw [q] at e; cases e
  | _ => cases e
/-- a value told at once -/
theorem Pt.val {Q : VK} {S : Sto} (q : Pt K Z ρ H Q d S) (k : Ok K Z ρ S H) (i : Is K Z ρ H v d) : Q v H := q ρ H v Ext.refl k i
theorem Pt.tup {Q : VK} {S : Sto} (q : Pt K Z ρ H Q (.tup ds) S) (k : Ok K Z ρ S H) (r : IsAll K Z ρ H vs ds) : ∀ p, H p = none → Q (.ref p) (upd H p (.tup vs)) :=
  fun p hp => q ρ _ _ (ext_new hp) (k.new hp) (new_tup k hp r)
theorem Pt.lst {Q : VK} {S : Sto} (q : Pt K Z ρ H Q (.lst ds) S) (k : Ok K Z ρ S H) (r : IsAll K Z ρ H vs ds) : ∀ p, H p = none → Q (.ref p) (upd H p (.lst vs)) :=
  fun p hp => q ρ _ _ (ext_new hp) (k.new hp) (new_lst k hp r)
theorem IsAll.nilV (r : IsAll K Z ρ H [] ds) : ds = [] := by cases r; rfl
theorem IsAll.nilD (r : IsAll K Z ρ H vs []) : vs = [] := by cases r; rfl
end
theorem some_if {α : Type} {c : Prop} [Decidable c] {a : α} {b : α} (h : (if c then some a else none) = some b) : c ∧ a = b := of_if h

/-! ### + -/
def fAdd : F2 := fun x y S => match x, y with
  | .int i, .int j => some (.int (i + j), S)
  | .str a, .str b => if a.length + b.length ≤ 1000000 then some (.str (a ++ b), S) else none
  | .tup xs, .tup ys => if xs.length + ys.length ≤ 1000000 then some (.tup (xs ++ ys), S) else none
  | x, y => match vl S x, vl S y with
    | some xs, some ys => if xs.length + ys.length ≤ 1000000 then some (.lst (xs ++ ys), S) else none
    | _, _ => none
def rAdd (K : PySem.W.Frag) : R2 := fun x y H Q => (rI0 (fun i j => .int (i + j)) x y H Q) ∨ (∃ i j, x = .str i ∧ y = .str j ∧ i.length + j.length ≤ sizeLine ∧ Q (.str (i ++ j)) H) ∨ rCatA K x y H Q ∨ rCat x y H Q
section
variable {X : Cx}
theorem or_add : OpR X (binaryOp .Add) (rAdd X.K) := op_add.or (op_add_str.or (op_catA.or op_cat))
theorem od_add (K : PySem.W.Frag) : OpD K (rAdd K) fAdd := by
  intro Z ρ S S' H x y dx dy d Q k ix iy h q
  unfold fAdd at h
  split at h
  · cases ix; cases iy; cases h
    exact .inl ⟨_, _, rfl, rfl, q.val k (.int _)⟩
  · cases ix; cases iy
    obtain ⟨hz, e⟩ := of_if h
    cases e
    exact .inr (.inl ⟨_, _, rfl, rfl, sz hz, q.val k (.str _)⟩)
  · rename_i xs ys
    obtain ⟨hz, e⟩ := of_if h
    cases e
    obtain ⟨a, vs, rfl, ha, ra⟩ := vw_tup (S := S) ix rfl
    obtain ⟨b, ws, rfl, hb, rb⟩ := vw_tup (S := S) iy rfl
    refine .inr (.inr (.inl ⟨a, b, vs, ws, rfl, rfl, ha, hb, by rw [ra.length, rb.length]; exact sz hz, fun e => ?_, fun n e => ?_, fun n1 n2 => q.tup k (ra.append rb)⟩))
    · subst e
      have e2 := ra.nilV
      subst e2
      exact q.val k (.tup hb rb)
    · subst e
      have e2 := rb.nilV
      subst e2
      rw [List.append_nil] at q
      exact q.val k (.tup ha ra)
  · split at h
    · rename_i xs ys e1 e2
      obtain ⟨hz, e⟩ := of_if h
      cases e
      obtain ⟨a, vs, rfl, ha, ra⟩ := vl_tr k ix e1
      obtain ⟨b, ws, rfl, hb, rb⟩ := vl_tr k iy e2
      exact .inr (.inr (.inr ⟨a, b, vs, ws, rfl, rfl, ha, hb, by rw [ra.length, rb.length]; exact sz hz, q.lst k (ra.append rb)⟩))
    · cases h

/-! ### - * % // ** -/
def fSub : F2 := fun x y S => match x, y with
  | .int i, .int j => some (.int (i - j), S)
  | _, _ => none
theorem od_sub (K : PySem.W.Frag) : OpD K (rI0 fun i j => .int (i - j)) fSub := by
  intro Z ρ S S' H x y dx dy d Q k ix iy h q
  unfold fSub at h
  split at h
  · cases ix; cases iy; cases h
    exact ⟨_, _, rfl, rfl, q.val k (.int _)⟩
  · cases h
/-- a text n times -/
def repS (a : Str) (n : Nat) : Str := ⟨(List.replicate n a.cps.toList).flatten.toArray⟩
def fMul : F2 := fun x y S => match x, y with
  | .int i, .int j => if (decide (-18446744073709551616 < i ∧ i < 18446744073709551616) || decide (-18446744073709551616 < j ∧ j < 18446744073709551616)) = true then some (.int (i * j), S) else none
  | .str a, .int j => if 0 ≤ j ∧ j ≤ 1000000 ∧ a.length * j.toNat ≤ 1000000 then some (.str (repS a j.toNat), S) else none
  | x, .int j => match vl S x with
    | some xs => if 0 ≤ j ∧ j ≤ 1000000 ∧ xs.length * j.toNat ≤ 1000000 then some (.lst (List.replicate j.toNat xs).flatten, S) else none
    | none => none
  | _, _ => none
def rStrRep : R2 := fun x y H Q => ∃ (a : Str) (j : Int), x = .str a ∧ y = .int j ∧ 0 ≤ j ∧ j ≤ 1000000 ∧ a.length * j.toNat ≤ 1000000 ∧ Q (.str (repS a j.toNat)) H
theorem rep_cps (a : Array Nat) : ∀ (n : Nat) (acc : Array Nat), List.foldl (fun x1 x2 => x1 ++ x2) acc (List.replicate n a) = acc ++ (List.replicate n a.toList).flatten.toArray
  | 0, acc => by simp
  | n + 1, acc => by
    rw [List.replicate_succ, List.foldl_cons, rep_cps a n, List.replicate_succ, List.flatten_cons]
    apply Array.ext'
    simp
theorem repS_zero (a : Str) : repS a 0 = ⟨#[]⟩ := rfl
theorem op_strRep : OpR X (binaryOp .Mult) rStrRep := by
  intro pins s σ H x y v u Q I rx ry h
  obtain ⟨a, j, rfl, rfl, h0, h1, hz, q⟩ := h
  obtain ⟨t, rfl⟩ := rx
  obtain ⟨t', rfl⟩ := ry
  have hsl := sizeLine_eq
  refine PySem.P.mul_str ?_ (fun hn hn2 => ?_) (fun hn hn2 => ?_) ?_
  · rw [decide_eq_false (by omega), decide_eq_false (by omega)]; rfl
  · have hj : 1 ≤ j := by omega
    have hl : (a.length : Int) ≤ 1000000 := by
      have : a.length ≤ a.length * j.toNat := Nat.le_mul_of_pos_right _ (by omega)
      omega
    intro hc
    have h3 : (2 ^ 63 - 1 : Int) / 1000000 ≤ (2 ^ 63 - 1) / j := by
      rw [Int.le_ediv_iff_mul_le (by omega)]
      have : (2 ^ 63 - 1 : Int) / 1000000 * j ≤ (2 ^ 63 - 1 : Int) / 1000000 * 1000000 := Int.mul_le_mul_of_nonneg_left h1 (by decide)
      have e : (2 ^ 63 - 1 : Int) / 1000000 * 1000000 ≤ 2 ^ 63 - 1 := by decide
      omega
    have h4 : (1000000 : Int) ≤ (2 ^ 63 - 1) / 1000000 := by decide
    omega
  · show decide (a.length * j.toNat > sizeLine) = false
    exact decide_eq_false (by omega)
  · by_cases hj : j < 1
    · rw [if_pos hj]
      have e : j = 0 := by omega
      subst e
      refine ⟨?_, ?_⟩
      · show (0 : Nat) ≤ sizeLine
        omega
      · exact ⟨.str _, H, I.tok _, ⟨_, rfl⟩, q⟩
    · rw [if_neg hj]
      by_cases hc : (j == 1 || a.length == 0) = true
      · rw [if_pos hc]
        have e : repS a j.toNat = a := by
          rw [Bool.or_eq_true] at hc
          rcases hc with hc | hc
          · have : j = 1 := by simpa using hc
            subst this
            show (⟨(List.replicate 1 a.cps.toList).flatten.toArray⟩ : Str) = a
            simp
          · have hl : a.cps.size = 0 := by simpa [Str.length] using hc
            have e0 : a.cps.toList = [] := by
              apply List.eq_nil_of_length_eq_zero
              simpa using hl
            have e1 : a.cps = #[] := by
              apply Array.ext'
              simpa using e0
            show (⟨(List.replicate j.toNat a.cps.toList).flatten.toArray⟩ : Str) = a
            rw [e0]
            have : (List.replicate j.toNat ([] : List Nat)).flatten = [] := by simp
            rw [this]
            cases a; simp_all
        rw [e] at q
        exact ⟨.str a, H, I, ⟨t, rfl⟩, q⟩
      · rw [if_neg hc]
        have e : List.foldl (fun x1 x2 => x1 ++ x2) #[] (List.replicate j.toNat a.cps) = (List.replicate j.toNat a.cps.toList).flatten.toArray := by
          rw [rep_cps]; simp
        rw [e]
        refine ⟨?_, .str _, H, I.tok _, ⟨_, rfl⟩, q⟩
        show (List.replicate j.toNat a.cps.toList).flatten.toArray.size ≤ sizeLine
        rw [List.size_toArray, List.length_flatten, List.map_replicate, List.sum_replicate_nat]
        have : a.cps.toList.length = a.length := by simp [Str.length]
        rw [this]
        have : j.toNat * a.length = a.length * j.toNat := Nat.mul_comm _ _
        omega
def rMul : R2 := fun x y H Q => (rI CMul (fun i j => .int (i * j)) x y H Q) ∨ rStrRep x y H Q ∨ rRep x y H Q
theorem or_mul : OpR X (binaryOp .Mult) rMul := op_mul.or (op_strRep.or op_rep)
theorem IsAll.rep {K : PySem.W.Frag} {Z ρ : List Addr} {H : Hp} {vs : List V} {ds : List D} (r : IsAll K Z ρ H vs ds) : ∀ n : Nat, IsAll K Z ρ H (List.replicate n vs).flatten (List.replicate n ds).flatten
  | 0 => .nil
  | n + 1 => by
    rw [List.replicate_succ, List.replicate_succ, List.flatten_cons, List.flatten_cons]
    exact r.append (IsAll.rep r n)
theorem od_mul (K : PySem.W.Frag) : OpD K rMul fMul := by
  intro Z ρ S S' H x y dx dy d Q k ix iy h q
  unfold fMul at h
  split at h
  · cases ix; cases iy
    obtain ⟨hc, e⟩ := of_if h
    cases e
    rw [Bool.or_eq_true, decide_eq_true_eq, decide_eq_true_eq] at hc
    refine .inl ⟨_, _, rfl, rfl, ?_, q.val k (.int _)⟩
    rcases hc with ⟨a, b⟩ | ⟨a, b⟩
    · exact .inl ⟨by omega, by omega⟩
    · exact .inr ⟨by omega, by omega⟩
  · cases ix; cases iy
    obtain ⟨⟨h0, h1, h2⟩, e⟩ := of_if h
    cases e
    exact .inr (.inl ⟨_, _, rfl, rfl, h0, h1, h2, q.val k (.str _)⟩)
  · cases iy
    split at h
    · rename_i xs e1
      obtain ⟨⟨h0, h1, h2⟩, e⟩ := of_if h
      cases e
      obtain ⟨a, vs, rfl, ha, ra⟩ := vl_tr k ix e1
      exact .inr (.inr ⟨a, _, vs, rfl, rfl, ha, by omega, by omega, by rw [ra.length]; exact sz h2, q.lst k (ra.rep _)⟩)
    · cases h
  · cases h
def fMod : F2 := fun x y S => match x, y with
  | .int i, .int j => if 0 < j then some (.int (i % j), S) else none
  | _, _ => none
theorem od_mod (K : PySem.W.Frag) : OpD K (rI (fun _ j => 0 < j) fun i j => .int (i % j)) fMod := by
  intro Z ρ S S' H x y dx dy d Q k ix iy h q
  unfold fMod at h
  split at h
  · cases ix; cases iy
    obtain ⟨hc, e⟩ := of_if h
    cases e
    exact ⟨_, _, rfl, rfl, hc, q.val k (.int _)⟩
  · cases h
def fDiv : F2 := fun x y S => match x, y with
  | .int i, .int j => if 0 < j ∧ j < 1073741824 then some (.int (i / j), S) else none
  | _, _ => none
theorem od_div (K : PySem.W.Frag) : OpD K (rI CDiv fun i j => .int (i / j)) fDiv := by
  intro Z ρ S S' H x y dx dy d Q k ix iy h q
  unfold fDiv at h
  split at h
  · cases ix; cases iy
    obtain ⟨hc, e⟩ := of_if h
    cases e
    exact ⟨_, _, rfl, rfl, hc, q.val k (.int _)⟩
  · cases h
def CPowW (i j : Int) : Prop := 0 ≤ j ∧ (Builtin.Int.intBits i : Int) * j ≤ 134217728
theorem op_powW : OpR X (binaryOp .Pow) (rI CPowW fun i j => .int (i ^ j.toNat)) := opI fun i j _ _ _ _ _ hc q => pow_int hc.1 (by have := hc.2; omega) q
def fPow : F2 := fun x y S => match x, y with
  | .int i, .int j => if 0 ≤ j ∧ (Builtin.Int.intBits i : Int) * j ≤ 134217728 then some (.int (i ^ j.toNat), S) else none
  | _, _ => none
theorem od_pow (K : PySem.W.Frag) : OpD K (rI CPowW fun i j => .int (i ^ j.toNat)) fPow := by
  intro Z ρ S S' H x y dx dy d Q k ix iy h q
  unfold fPow at h
  split at h
  · cases ix; cases iy
    obtain ⟨hc, e⟩ := of_if h
    cases e
    exact ⟨_, _, rfl, rfl, hc, q.val k (.int _)⟩
  · cases h
def fNeg : F1 := fun x S => match x with
  | .int i => some (.int (-i), S)
  | _ => none
theorem od_neg (K : PySem.W.Frag) : UnD K (rU fun i => .int (-i)) fNeg := by
  intro Z ρ S S' H x dx d Q k ix h q
  unfold fNeg at h
  split at h
  · cases ix; cases h
    exact ⟨_, rfl, q.val k (.int _)⟩
  · cases h
end
end Pv

/-! Pv5: comparisons, what is built in. -/
namespace Pv
open PySem PySem.Spec PyProof.Rows L2
/-! ### == and != -/
def eqOk (d : D) : Bool := pln d && decide (dep d ≤ 60)
def fEqD (n : Bool) : F2 := fun x y S => if (eqOk (vw S x) && eqOk (vw S y)) = true then some (.bl (n ^^ deq (vw S x) (vw S y)), S) else none
def fEq : F2 := fun x y S => match x, y with
  | .str a, .str b => some (.bl (decide (a = b)), S)
  | .int i, .int j => some (.bl (decide (i = j)), S)
  | x, y => fEqD false x y S
def fNe : F2 := fun x y S => match x, y with
  | .str a, .str b => some (.bl (!decide (a = b)), S)
  | .int i, .int j => some (.bl (!decide (i = j)), S)
  | x, y => fEqD true x y S
theorem eqOk_py {d : D} (h : eqOk d = true) : ∃ p, toPy d = some p ∧ SeqAt.shaped p = true := by
  unfold eqOk at h
  rw [Bool.and_eq_true, decide_eq_true_eq] at h
  obtain ⟨p, e, c, z⟩ := toPy_of d h.1
  refine ⟨p, e, ?_⟩
  unfold SeqAt.shaped
  rw [c, z, decide_eq_true (by omega)]
  rfl
section
variable {X : Cx}
def rEqA (K : PySem.W.Frag) : R2 := fun x y H Q => rEq x y H Q ∨ rEqD K x y H Q
def rNeA (K : PySem.W.Frag) : R2 := fun x y H Q => rNe x y H Q ∨ rNeD K x y H Q
theorem or_eq (hu : X.A.units + 64 < cLine) : OpR X (compareOp .Eq) (rEqA X.K) := op_eq.or (op_eqD hu)
theorem or_ne (hu : X.A.units + 64 < cLine) : OpR X (compareOp .NotEq) (rNeA X.K) := op_ne.or (op_neD hu)
theorem eqD_of {K : PySem.W.Frag} {Z ρ : List Addr} {S S' : Sto} {H : Hp} {x y : V} {dx dy d : D} {n : Bool} (k : Ok K Z ρ S H) (ix : Is K Z ρ H x dx) (iy : Is K Z ρ H y dy) (h : fEqD n dx dy S = some (d, S')) :
    S' = S ∧ ∃ b, d = .bl (n ^^ b) ∧ ∃ p p2, Dp K H x p ∧ Dp K H y p2 ∧ SeqAt.shaped p = true ∧ SeqAt.shaped p2 = true ∧ PyData.eqv p p2 = b := by
  obtain ⟨hc, e⟩ := of_if h
  cases e
  rw [Bool.and_eq_true] at hc
  obtain ⟨p, e1, s1⟩ := eqOk_py hc.1
  obtain ⟨p2, e2, s2⟩ := eqOk_py hc.2
  exact ⟨rfl, _, rfl, p, p2, vw_dp k ix e1, vw_dp k iy e2, s1, s2, eqv_deq _ _ p p2 e1 e2⟩
theorem od_eq (K : PySem.W.Frag) : OpD K (rEqA K) fEq := by
  intro Z ρ S S' H x y dx dy d Q k ix iy h q
  unfold fEq at h
  split at h
  · cases ix; cases iy; cases h
    exact .inl ⟨rfl, by simpa using q.val k (.bl _)⟩
  · cases ix; cases iy; cases h
    exact .inl ⟨rfl, by simpa using q.val k (.bl _)⟩
  · obtain ⟨rfl, b, rfl, p, p2, d1, d2, s1, s2, e⟩ := eqD_of k ix iy h
    refine .inr ⟨p, p2, d1, d2, s1, s2, ?_⟩
    rw [e]
    simpa using q.val k (.bl _)
theorem od_ne (K : PySem.W.Frag) : OpD K (rNeA K) fNe := by
  intro Z ρ S S' H x y dx dy d Q k ix iy h q
  unfold fNe at h
  split at h
  · cases ix; cases iy; cases h
    exact .inl ⟨rfl, by simpa using q.val k (.bl _)⟩
  · cases ix; cases iy; cases h
    exact .inl ⟨rfl, by simpa using q.val k (.bl _)⟩
  · obtain ⟨rfl, b, rfl, p, p2, d1, d2, s1, s2, e⟩ := eqD_of k ix iy h
    refine .inr ⟨p, p2, d1, d2, s1, s2, ?_⟩
    rw [e]
    simpa using q.val k (.bl _)

/-! ### order: ints, texts -/
def fLt : F2 := fun x y S => match x, y with
  | .int i, .int j => some (.bl (decide (i < j)), S)
  | .str a, .str b => some (.bl (decide (a.cps.toList < b.cps.toList)), S)
  | _, _ => none
def fLe : F2 := fun x y S => match x, y with
  | .int i, .int j => some (.bl (decide (i ≤ j)), S)
  | .str a, .str b => some (.bl (!decide (b.cps.toList < a.cps.toList)), S)
  | _, _ => none
def fGt : F2 := fun x y S => match x, y with
  | .int i, .int j => some (.bl (decide (j < i)), S)
  | .str a, .str b => some (.bl (decide (b.cps.toList < a.cps.toList)), S)
  | _, _ => none
def fGe : F2 := fun x y S => match x, y with
  | .int i, .int j => some (.bl (decide (j ≤ i)), S)
  | _, _ => none
def rII (g : Int → Int → Bool) (t : Str → Str → Bool) : R2 := fun x y H Q => (rI0 (fun i j => .bl (g i j)) x y H Q) ∨ ∃ i j, x = .str i ∧ y = .str j ∧ Q (.bl (t i j)) H
theorem or_lt : OpR X (compareOp .Lt) (rII (fun i j => decide (i < j)) fun a b => decide (a.cps.toList < b.cps.toList)) := op_lt.or op_lt_str
theorem or_le : OpR X (compareOp .LtE) (rII (fun i j => decide (i ≤ j)) fun a b => !decide (b.cps.toList < a.cps.toList)) := op_le.or op_le_str
theorem or_gt : OpR X (compareOp .Gt) (rII (fun i j => decide (j < i)) fun a b => decide (b.cps.toList < a.cps.toList)) := op_gt.or op_gt_str
theorem od_lt (K : PySem.W.Frag) : OpD K (rII (fun i j => decide (i < j)) fun a b => decide (a.cps.toList < b.cps.toList)) fLt := by
  intro Z ρ S S' H x y dx dy d Q k ix iy h q
  unfold fLt at h
  split at h
  · cases ix; cases iy; cases h; exact .inl ⟨_, _, rfl, rfl, q.val k (.bl _)⟩
  · cases ix; cases iy; cases h; exact .inr ⟨_, _, rfl, rfl, q.val k (.bl _)⟩
  · cases h
theorem od_le (K : PySem.W.Frag) : OpD K (rII (fun i j => decide (i ≤ j)) fun a b => !decide (b.cps.toList < a.cps.toList)) fLe := by
  intro Z ρ S S' H x y dx dy d Q k ix iy h q
  unfold fLe at h
  split at h
  · cases ix; cases iy; cases h; exact .inl ⟨_, _, rfl, rfl, q.val k (.bl _)⟩
  · cases ix; cases iy; cases h; exact .inr ⟨_, _, rfl, rfl, q.val k (.bl _)⟩
  · cases h
theorem od_gt (K : PySem.W.Frag) : OpD K (rII (fun i j => decide (j < i)) fun a b => decide (b.cps.toList < a.cps.toList)) fGt := by
  intro Z ρ S S' H x y dx dy d Q k ix iy h q
  unfold fGt at h
  split at h
  · cases ix; cases iy; cases h; exact .inl ⟨_, _, rfl, rfl, q.val k (.bl _)⟩
  · cases ix; cases iy; cases h; exact .inr ⟨_, _, rfl, rfl, q.val k (.bl _)⟩
  · cases h
theorem od_ge (K : PySem.W.Frag) : OpD K (rI0 fun i j => .bl (decide (j ≤ i))) fGe := by
  intro Z ρ S S' H x y dx dy d Q k ix iy h q
  unfold fGe at h
  split at h
  · cases ix; cases iy; cases h; exact ⟨_, _, rfl, rfl, q.val k (.bl _)⟩
  · cases h

/-! ### in -/
def fIn : F2 := fun x y S => match y with
  | .str z => match x with
    | .str c => match c.cps.toList with
      | [n] => some (.bl (decide (n ∈ z.cps.toList)), S)
      | _ => none
    | _ => none
  | y => match vw S y with
    | .lst ds => if (eqOk (vw S x) && eqOk (.lst ds)) = true then some (.bl (ds.any fun z => deq z (vw S x)), S) else none
    | .tup ds => if (eqOk (vw S x) && eqOk (.tup ds)) = true then some (.bl (ds.any fun z => deq z (vw S x)), S) else none
    | _ => none
def fNotIn : F2 := fun x y S => match fIn x y S with
  | some (.bl b, S') => some (.bl (!b), S')
  | _ => none
def rInT (K : PySem.W.Frag) (n : Bool) : R2 := fun x y H Q => ∃ d ds, Dp K H x d ∧ Dp K H y (.tuple ds) ∧ SeqAt.shaped d = true ∧ SeqAt.shaped (.tuple ds) = true ∧ Q (.bl (n ^^ ds.any fun z => PyData.eqv z d)) H
def rSg (n : Bool) : R2 := fun x y H Q => ∃ (c : Nat) (z : Str), x = .str ⟨#[c]⟩ ∧ y = .str z ∧ Q (.bl (n ^^ decide (c ∈ z.cps.toList))) H
def rInL (K : PySem.W.Frag) (n : Bool) : R2 := fun x y H Q => ∃ d ds, Dp K H x d ∧ Dp K H y (.list ds) ∧ SeqAt.shaped d = true ∧ SeqAt.shaped (.list ds) = true ∧ Q (.bl (n ^^ ds.any fun z => PyData.eqv z d)) H
theorem op_inT (hu : X.A.units + 65 < cLine) : OpR X (compareOp .In) (rInT X.K false) := by
  intro pins s σ H x y v u Q I rx ry h
  obtain ⟨d, ds, hd, he, sd, se, q⟩ := h
  obtain ⟨as, r1⟩ := Dp.reads I d x v hd rx
  obtain ⟨bs, r2⟩ := Dp.reads I (.tuple ds) y u he ry
  exact SeqAt.in_tuple_reads r2 r1 (SeqAt.canLay_of_shaped se) (SeqAt.canLay_of_shaped sd) (room_in_shaped sd hu) ⟨.bl _, H, I, rfl, by simpa using q⟩
theorem op_notInT (hu : X.A.units + 65 < cLine) : OpR X (compareOp .NotIn) (rInT X.K true) := by
  intro pins s σ H x y v u Q I rx ry h
  obtain ⟨d, ds, hd, he, sd, se, q⟩ := h
  obtain ⟨as, r1⟩ := Dp.reads I d x v hd rx
  obtain ⟨bs, r2⟩ := Dp.reads I (.tuple ds) y u he ry
  exact SeqAt.notIn_tuple_reads r2 r1 (SeqAt.canLay_of_shaped se) (SeqAt.canLay_of_shaped sd) (room_in_shaped sd hu) ⟨.bl _, H, I, rfl, by simpa using q⟩
def rInA (K : PySem.W.Frag) (n : Bool) : R2 := fun x y H Q => rSg n x y H Q ∨ rInL K n x y H Q ∨ rInT K n x y H Q
theorem OpR.imp {f : Value → Value → Sem Value} {r r' : R2} (h : OpR X f r) (i : ∀ x y H Q, r' x y H Q → r x y H Q) : OpR X f r' := fun pins s σ H x y v u Q I rx ry q => h pins s σ H x y v u Q I rx ry (i _ _ _ _ q)
theorem or_in (hu : X.A.units + 65 < cLine) : OpR X (compareOp .In) (rInA X.K false) :=
  (OpR.imp op_in_sign fun _ _ _ _ ⟨c, z, e1, e2, q⟩ => ⟨c, z, e1, e2, by simpa using q⟩).or ((OpR.imp (op_inD hu) fun _ _ _ _ ⟨d, ds, a, b, c, e, q⟩ => ⟨d, ds, a, b, c, e, by simpa using q⟩).or (op_inT hu))
theorem or_notIn (hu : X.A.units + 65 < cLine) : OpR X (compareOp .NotIn) (rInA X.K true) :=
  (OpR.imp op_notIn_sign fun _ _ _ _ ⟨c, z, e1, e2, q⟩ => ⟨c, z, e1, e2, by simpa using q⟩).or ((OpR.imp (op_notInD hu) fun _ _ _ _ ⟨d, ds, a, b, c, e, q⟩ => ⟨d, ds, a, b, c, e, by simpa using q⟩).or (op_notInT hu))
theorem any_deq {ds : List D} {ps : List PyData} (e : toPyAll ds = some ps) {d : D} {p : PyData} (e2 : toPy d = some p) : (ps.any fun z => PyData.eqv z p) = ds.any fun z => deq z d := by
  induction ds generalizing ps with
  | nil => cases e; rfl
  | cons x xs ih =>
    simp only [toPyAll] at e
    split at e
    · rename_i a b c1 c2
      cases e
      rw [List.any_cons, List.any_cons, ih c2, eqv_deq x d a p c1 e2]
    · cases e
theorem str_one {c : Str} {n : Nat} (e : c.cps.toList = [n]) : c = ⟨#[n]⟩ := by
  obtain ⟨cps⟩ := c
  have e' : cps = #[n] := by
    apply Array.ext'
    exact e
  rw [e']
theorem in_any {K : PySem.W.Frag} {Z ρ : List Addr} {S S' : Sto} {H : Hp} {x y : V} {dx dy d : D} (k : Ok K Z ρ S H) (ix : Is K Z ρ H x dx) (iy : Is K Z ρ H y dy) (h : fIn dx dy S = some (d, S')) :
    S' = S ∧ ∃ b, d = .bl b ∧ ∀ (n : Bool) (Q : VK), Q (.bl (n ^^ b)) H → rInA K n x y H Q := by
  unfold fIn at h
  split at h
  · split at h
    · split at h
      · rename_i c n e
        cases h
        cases ix; cases iy
        refine ⟨rfl, _, rfl, fun m Q q => .inl ⟨n, _, ?_, rfl, q⟩⟩
        rw [str_one e]
      · cases h
    · cases h
  · split at h
    · rename_i ds e1
      obtain ⟨hc, e⟩ := of_if h
      cases e
      rw [Bool.and_eq_true] at hc
      obtain ⟨p, e3, s1⟩ := eqOk_py hc.1
      obtain ⟨p2, e4, s2⟩ := eqOk_py hc.2
      have e5 := e4
      simp only [toPy, Option.map_eq_some_iff] at e5
      obtain ⟨ps, e6, rfl⟩ := e5
      refine ⟨rfl, _, rfl, fun m Q q => .inr (.inl ⟨p, ps, vw_dp k ix e3, vw_dp k iy (by rw [e1]; exact e4), s1, s2, ?_⟩)⟩
      rw [any_deq e6 e3]
      exact q
    · rename_i ds e1
      obtain ⟨hc, e⟩ := of_if h
      cases e
      rw [Bool.and_eq_true] at hc
      obtain ⟨p, e3, s1⟩ := eqOk_py hc.1
      obtain ⟨p2, e4, s2⟩ := eqOk_py hc.2
      have e5 := e4
      simp only [toPy, Option.map_eq_some_iff] at e5
      obtain ⟨ps, e6, rfl⟩ := e5
      refine ⟨rfl, _, rfl, fun m Q q => .inr (.inr ⟨p, ps, vw_dp k ix e3, vw_dp k iy (by rw [e1]; exact e4), s1, s2, ?_⟩)⟩
      rw [any_deq e6 e3]
      exact q
    · cases h
theorem od_in (K : PySem.W.Frag) : OpD K (rInA K false) fIn := by
  intro Z ρ S S' H x y dx dy d Q k ix iy h q
  obtain ⟨rfl, b, rfl, z⟩ := in_any k ix iy h
  exact z false Q (by simpa using q.val k (.bl _))
theorem od_notIn (K : PySem.W.Frag) : OpD K (rInA K true) fNotIn := by
  intro Z ρ S S' H x y dx dy d Q k ix iy h q
  unfold fNotIn at h
  split at h
  · rename_i b S1 e
    cases h
    obtain ⟨rfl, b', e2, z⟩ := in_any k ix iy e
    cases e2
    exact z true Q (by simpa using q.val k (.bl _))
  · cases h

/-! ### is -/
def fIs : F2 := fun x y S => match x, y with
  | .bl a, .bl b => some (.bl (decide (a = b)), S)
  | .cell _, .non => some (.bl false, S)
  | .non, .non => some (.bl true, S)
  | .bl _, .non => some (.bl false, S)
  | .int _, .non => some (.bl false, S)
  | .str _, .non => some (.bl false, S)
  | .tup _, .non => some (.bl false, S)
  | .lst _, .non => some (.bl false, S)
  | _, _ => none
def fIsNot : F2 := fun x y S => match fIs x y S with
  | some (.bl b, S') => some (.bl (!b), S')
  | _ => none
def rIsA (n : Bool) : R2 := fun x y H Q => (∃ a b : Bool, x = .bl a ∧ y = .bl b ∧ Q (.bl (n ^^ decide (a = b))) H) ∨ (y = .non ∧ Q (.bl (n ^^ decide (x = .non))) H)
theorem or_is : OpR X (compareOp .Is) (rIsA false) :=
  (OpR.imp op_isBl fun _ _ _ _ ⟨a, b, e1, e2, q⟩ => ⟨a, b, e1, e2, by simpa using q⟩).or (OpR.imp op_isN fun _ _ _ _ ⟨e, q⟩ => ⟨e, by simpa using q⟩)
theorem or_isNot : OpR X (compareOp .IsNot) (rIsA true) :=
  (OpR.imp op_notBl fun _ _ _ _ ⟨a, b, e1, e2, q⟩ => ⟨a, b, e1, e2, by simpa using q⟩).or (OpR.imp op_notN fun _ _ _ _ ⟨e, q⟩ => ⟨e, by simpa using q⟩)
theorem is_any {K : PySem.W.Frag} {Z ρ : List Addr} {S S' : Sto} {H : Hp} {x y : V} {dx dy d : D} (k : Ok K Z ρ S H) (ix : Is K Z ρ H x dx) (iy : Is K Z ρ H y dy) (h : fIs dx dy S = some (d, S')) :
    S' = S ∧ ∃ b, d = .bl b ∧ ∀ (n : Bool) (Q : VK), Q (.bl (n ^^ b)) H → rIsA n x y H Q := by
  unfold fIs at h
  split at h
  · cases ix; cases iy; cases h
    exact ⟨rfl, _, rfl, fun n Q q => .inl ⟨_, _, rfl, rfl, q⟩⟩
  all_goals first
    | (cases ix; cases iy; cases h; exact ⟨rfl, _, rfl, fun n Q q => .inr ⟨rfl, by simpa using q⟩⟩)
    | cases h
theorem od_is (K : PySem.W.Frag) : OpD K (rIsA false) fIs := by
  intro Z ρ S S' H x y dx dy d Q k ix iy h q
  obtain ⟨rfl, b, rfl, z⟩ := is_any k ix iy h
  exact z false Q (by simpa using q.val k (.bl _))
theorem od_isNot (K : PySem.W.Frag) : OpD K (rIsA true) fIsNot := by
  intro Z ρ S S' H x y dx dy d Q k ix iy h q
  unfold fIsNot at h
  split at h
  · rename_i b S1 e
    cases h
    obtain ⟨rfl, b', e2, z⟩ := is_any k ix iy e
    cases e2
    exact z true Q (by simpa using q.val k (.bl _))
  · cases h
end
end Pv

/-! Pv6: calls of what is built in. -/
namespace Pv
open PySem PySem.Spec PyProof.Rows L2
section
variable {X : Cx} {K : PySem.W.Frag} {Z ρ : List Addr} {S : Sto} {H : Hp} {vs : List V} {ds : List D}
/-! ### lists of one kind -/
def ints? : List D → Option (List Int)
  | [] => some []
  | .int i :: r => (ints? r).map (i :: ·)
  | _ => none
def bools? : List D → Option (List Bool)
  | [] => some []
  | .bl i :: r => (bools? r).map (i :: ·)
  | _ => none
def strs? : List D → Option (List Str)
  | [] => some []
  | .str i :: r => (strs? r).map (i :: ·)
  | _ => none
theorem ints_vs : ∀ {vs : List V} {ds : List D} {ns : List Int}, IsAll K Z ρ H vs ds → ints? ds = some ns → vs = ns.map V.int
  | _, [], _, .nil, e => by cases e; rfl
  | _, d :: ds, ns, .cons i r, e => by
    cases i with
    | int j =>
      simp only [ints?, Option.map_eq_some_iff] at e
      obtain ⟨ms, e1, rfl⟩ := e
      rw [List.map_cons, ints_vs r e1]
    | _ => cases e
theorem bools_vs : ∀ {vs : List V} {ds : List D} {ns : List Bool}, IsAll K Z ρ H vs ds → bools? ds = some ns → vs = ns.map V.bl
  | _, [], _, .nil, e => by cases e; rfl
  | _, d :: ds, ns, .cons i r, e => by
    cases i with
    | bl j =>
      simp only [bools?, Option.map_eq_some_iff] at e
      obtain ⟨ms, e1, rfl⟩ := e
      rw [List.map_cons, bools_vs r e1]
    | _ => cases e
theorem strs_vs : ∀ {vs : List V} {ds : List D} {ns : List Str}, IsAll K Z ρ H vs ds → strs? ds = some ns → vs = ns.map V.str
  | _, [], _, .nil, e => by cases e; rfl
  | _, d :: ds, ns, .cons i r, e => by
    cases i with
    | str j =>
      simp only [strs?, Option.map_eq_some_iff] at e
      obtain ⟨ms, e1, rfl⟩ := e
      rw [List.map_cons, strs_vs r e1]
    | _ => cases e
theorem ints_map (ns : List Int) : ints? (ns.map D.int) = some ns := by
  induction ns with
  | nil => rfl
  | cons n r ih => simp [ints?, ih]
theorem bools_map (ns : List Bool) : bools? (ns.map D.bl) = some ns := by
  induction ns with
  | nil => rfl
  | cons n r ih => simp [bools?, ih]
theorem strs_map (ns : List Str) : strs? (ns.map D.str) = some ns := by
  induction ns with
  | nil => rfl
  | cons n r ih => simp [strs?, ih]
theorem IsAll.bools : ∀ (ns : List Bool), IsAll K Z ρ H (ns.map V.bl) (ns.map D.bl)
  | [] => .nil
  | n :: ns => .cons (.bl n) (IsAll.bools ns)
theorem IsAll.strs : ∀ (ns : List Str), IsAll K Z ρ H (ns.map V.str) (ns.map D.str)
  | [] => .nil
  | n :: ns => .cons (.str n) (IsAll.strs ns)
theorem is1 {d : D} (r : IsAll K Z ρ H vs [d]) : ∃ v, vs = [v] ∧ Is K Z ρ H v d := by
  cases r with
  | cons i r => cases r; exact ⟨_, rfl, i⟩
theorem is2 {d e : D} (r : IsAll K Z ρ H vs [d, e]) : ∃ v w, vs = [v, w] ∧ Is K Z ρ H v d ∧ Is K Z ρ H w e := by
  cases r with
  | cons i r =>
    cases r with
    | cons j r => cases r; exact ⟨_, _, rfl, i, j⟩

/-! ### len, abs, int, sum, all, any -/
def fLen : FA := fun xs S => match xs with
  | [x] => match vw S x with
    | .str a => if a.length ≤ 1000000 then some (.int a.length, S) else none
    | .lst ds => some (.int ds.length, S)
    | .tup ds => some (.int ds.length, S)
    | _ => none
  | _ => none
theorem cd_len (K : PySem.W.Frag) : CallD K (fun xs H Q => ∃ x n, xs = [x] ∧ LenV K x H n ∧ Q (.int n) H) fLen := by
  intro Z ρ S S' H xs ds d Q k i h q
  unfold fLen at h
  split at h
  · obtain ⟨v, rfl, iv⟩ := is1 i
    split at h
    · rename_i a e
      obtain ⟨hz, e2⟩ := of_if h
      cases e2
      cases vw_str iv e
      exact ⟨_, _, rfl, ⟨sz hz, rfl⟩, q.val k (.int _)⟩
    · rename_i es e
      cases h
      obtain ⟨a, vs, rfl, hl, r⟩ := vw_lst k iv e
      exact ⟨_, vs.length, rfl, .inl ⟨vs, hl, rfl⟩, by rw [r.length]; exact q.val k (.int _)⟩
    · rename_i es e
      cases h
      obtain ⟨a, vs, rfl, hl, r⟩ := vw_tup iv e
      exact ⟨_, vs.length, rfl, .inr ⟨vs, hl, rfl⟩, by rw [r.length]; exact q.val k (.int _)⟩
    · cases h
  · cases h
def fAbs : FA := fun xs S => match xs with
  | [.int i] => some (.int (if i < 0 then -i else i), S)
  | _ => none
theorem cd_abs (K : PySem.W.Frag) : CallD K (fun xs H Q => ∃ i, xs = [.int i] ∧ Q (.int (if i < 0 then -i else i)) H) fAbs := by
  intro Z ρ S S' H xs ds d Q k i h q
  unfold fAbs at h
  split at h
  · obtain ⟨v, rfl, iv⟩ := is1 i
    cases iv; cases h
    exact ⟨_, rfl, q.val k (.int _)⟩
  · cases h
def fInt : FA := fun xs S => match xs with
  | [.int i] => some (.int i, S)
  | [.bl b] => some (.int (if b then 1 else 0), S)
  | _ => none
theorem cd_int (K : PySem.W.Frag) : CallD K (fun xs H Q => (∃ i, xs = [.int i] ∧ Q (.int i) H) ∨ ∃ k, xs = [.bl k] ∧ Q (.int (if k then 1 else 0)) H) fInt := by
  intro Z ρ S S' H xs ds d Q k i h q
  unfold fInt at h
  split at h
  · obtain ⟨v, rfl, iv⟩ := is1 i
    cases iv; cases h
    exact .inl ⟨_, rfl, q.val k (.int _)⟩
  · obtain ⟨v, rfl, iv⟩ := is1 i
    cases iv; cases h
    exact .inr ⟨_, rfl, q.val k (.int _)⟩
  · cases h
def fSum : FA := fun xs S => match xs with
  | [x] => match vw S x with
    | .lst ds => (ints? ds).map fun ns => (.int ns.sum, S)
    | _ => none
  | _ => none
theorem cd_sum (K : PySem.W.Frag) : CallD K (rSum K) fSum := by
  intro Z ρ S S' H xs ds d Q k i h q
  unfold fSum at h
  split at h
  · obtain ⟨v, rfl, iv⟩ := is1 i
    split at h
    · rename_i es e
      rw [Option.map_eq_some_iff] at h
      obtain ⟨ns, e1, e2⟩ := h
      cases e2
      obtain ⟨a, vs, rfl, hl, r⟩ := vw_lst k iv e
      have := ints_vs r e1
      subst this
      exact ⟨a, ns, rfl, hl, q.val k (.int _)⟩
    · cases h
  · cases h
def fAll : FA := fun xs S => match xs with
  | [x] => match vw S x with
    | .lst ds => (bools? ds).map fun ns => (.bl (ns.all id), S)
    | _ => none
  | _ => none
theorem cd_all (K : PySem.W.Frag) : CallD K (rAll K) fAll := by
  intro Z ρ S S' H xs ds d Q k i h q
  unfold fAll at h
  split at h
  · obtain ⟨v, rfl, iv⟩ := is1 i
    split at h
    · rename_i es e
      rw [Option.map_eq_some_iff] at h
      obtain ⟨ns, e1, e2⟩ := h
      cases e2
      obtain ⟨a, vs, rfl, hl, r⟩ := vw_lst k iv e
      have := bools_vs r e1
      subst this
      exact ⟨a, ns, rfl, hl, q.val k (.bl _)⟩
    · cases h
  · cases h
def fAny : FA := fun xs S => match xs with
  | [x] => match vw S x with
    | .lst ds => (bools? ds).map fun ns => (.bl (ns.any id), S)
    | _ => none
  | _ => none
theorem cd_any (K : PySem.W.Frag) : CallD K (rAny K) fAny := by
  intro Z ρ S S' H xs ds d Q k i h q
  unfold fAny at h
  split at h
  · obtain ⟨v, rfl, iv⟩ := is1 i
    split at h
    · rename_i es e
      rw [Option.map_eq_some_iff] at h
      obtain ⟨ns, e1, e2⟩ := h
      cases e2
      obtain ⟨a, vs, rfl, hl, r⟩ := vw_lst k iv e
      have := bools_vs r e1
      subst this
      exact ⟨a, ns, rfl, hl, q.val k (.bl _)⟩
    · cases h
  · cases h

/-! ### min, max -/
def minI : List Int → Option Int
  | [] => none
  | n :: r => match minI r with
    | none => some n
    | some m => some (if m < n then m else n)
def maxI : List Int → Option Int
  | [] => none
  | n :: r => match maxI r with
    | none => some n
    | some m => some (if n < m then m else n)
theorem minI_is : ∀ {ns : List Int} {m : Int}, minI ns = some m → m ∈ ns ∧ ∀ y, y ∈ ns → m ≤ y
  | n :: r, m, h => by
    unfold minI at h
    cases e : minI r with
    | none =>
      rw [e] at h; cases h
      have : r = [] := by cases r with | nil => rfl | cons a b => (unfold minI at e; split at e <;> cases e)
      subst this
      exact ⟨by simp, fun y hy => by simp at hy; omega⟩
    | some m' =>
      rw [e] at h; cases h
      obtain ⟨h1, h2⟩ := minI_is e
      by_cases c : m' < n
      · rw [if_pos c]
        exact ⟨List.mem_cons_of_mem _ h1, fun y hy => by rcases List.mem_cons.mp hy with rfl | hy; omega; exact h2 y hy⟩
      · rw [if_neg c]
        exact ⟨by simp, fun y hy => by rcases List.mem_cons.mp hy with rfl | hy; omega; have := h2 y hy; omega⟩
theorem maxI_is : ∀ {ns : List Int} {m : Int}, maxI ns = some m → m ∈ ns ∧ ∀ y, y ∈ ns → y ≤ m
  | n :: r, m, h => by
    unfold maxI at h
    cases e : maxI r with
    | none =>
      rw [e] at h; cases h
      have : r = [] := by cases r with | nil => rfl | cons a b => (unfold maxI at e; split at e <;> cases e)
      subst this
      exact ⟨by simp, fun y hy => by simp at hy; omega⟩
    | some m' =>
      rw [e] at h; cases h
      obtain ⟨h1, h2⟩ := maxI_is e
      by_cases c : n < m'
      · rw [if_pos c]
        exact ⟨List.mem_cons_of_mem _ h1, fun y hy => by rcases List.mem_cons.mp hy with rfl | hy; omega; exact h2 y hy⟩
      · rw [if_neg c]
        exact ⟨by simp, fun y hy => by rcases List.mem_cons.mp hy with rfl | hy; omega; have := h2 y hy; omega⟩
def fMin : FA := fun xs S => match xs with
  | [.int i, .int j] => some (.int (if j < i then j else i), S)
  | [x] => match vw S x with
    | .lst ds => (ints? ds).bind fun ns => (minI ns).map fun m => (.int m, S)
    | _ => none
  | _ => none
def fMax : FA := fun xs S => match xs with
  | [.int i, .int j] => some (.int (if j > i then j else i), S)
  | [x] => match vw S x with
    | .lst ds => (ints? ds).bind fun ns => (maxI ns).map fun m => (.int m, S)
    | _ => none
  | _ => none
def rMinA (K : PySem.W.Frag) : List V → Hp → VK → Prop := fun xs H Q => (∃ i j, xs = [.int i, .int j] ∧ Q (.int (if j < i then j else i)) H) ∨ rMin K xs H Q
def rMaxA (K : PySem.W.Frag) : List V → Hp → VK → Prop := fun xs H Q => (∃ i j, xs = [.int i, .int j] ∧ Q (.int (if j > i then j else i)) H) ∨ rMax K xs H Q
theorem CallR.or {f : Value} {r r' : List V → Hp → VK → Prop} (h : CallR X f r) (h' : CallR X f r') : CallR X f (fun xs H Q => r xs H Q ∨ r' xs H Q) := by
  intro pins s σ H xs us Q I rx q
  rcases q with q | q
  · exact h pins s σ H xs us Q I rx q
  · exact h' pins s σ H xs us Q I rx q
theorem cr_minA (hc : X.calm = true) : CallR X (.builtin "min") (rMinA X.K) := CallR.or (call_min2 hc) (cr_min hc)
theorem cr_maxA (hc : X.calm = true) : CallR X (.builtin "max") (rMaxA X.K) := CallR.or (call_max2 hc) (cr_max hc)
theorem cd_min (K : PySem.W.Frag) : CallD K (rMinA K) fMin := by
  intro Z ρ S S' H xs ds d Q k i h q
  unfold fMin at h
  split at h
  · obtain ⟨v, w, rfl, iv, iw⟩ := is2 i
    cases iv; cases iw; cases h
    exact .inl ⟨_, _, rfl, q.val k (.int _)⟩
  · obtain ⟨v, rfl, iv⟩ := is1 i
    split at h
    · rename_i es e
      rw [Option.bind_eq_some_iff] at h
      obtain ⟨ns, e1, h⟩ := h
      rw [Option.map_eq_some_iff] at h
      obtain ⟨m, e2, h⟩ := h
      cases h
      obtain ⟨a, vs, rfl, hl, r⟩ := vw_lst k iv e
      have := ints_vs r e1
      subst this
      obtain ⟨h1, h2⟩ := minI_is e2
      refine .inr ⟨a, ns, rfl, hl, List.length_pos_of_mem h1, fun m' h1' h2' => ?_⟩
      have := h2 m' h1'
      have := h2' m h1
      have e : m' = m := by omega
      rw [e]
      exact q.val k (.int _)
    · cases h
  · cases h
theorem cd_max (K : PySem.W.Frag) : CallD K (rMaxA K) fMax := by
  intro Z ρ S S' H xs ds d Q k i h q
  unfold fMax at h
  split at h
  · obtain ⟨v, w, rfl, iv, iw⟩ := is2 i
    cases iv; cases iw; cases h
    exact .inl ⟨_, _, rfl, q.val k (.int _)⟩
  · obtain ⟨v, rfl, iv⟩ := is1 i
    split at h
    · rename_i es e
      rw [Option.bind_eq_some_iff] at h
      obtain ⟨ns, e1, h⟩ := h
      rw [Option.map_eq_some_iff] at h
      obtain ⟨m, e2, h⟩ := h
      cases h
      obtain ⟨a, vs, rfl, hl, r⟩ := vw_lst k iv e
      have := ints_vs r e1
      subst this
      obtain ⟨h1, h2⟩ := maxI_is e2
      refine .inr ⟨a, ns, rfl, hl, List.length_pos_of_mem h1, fun m' h1' h2' => ?_⟩
      have := h2 m' h1'
      have := h2' m h1
      have e : m' = m := by omega
      rw [e]
      exact q.val k (.int _)
    · cases h
  · cases h

/-! ### sorted, list, tuple -/
def sortI (ns : List Int) : List Int := ns.mergeSort fun a b => decide (a ≤ b)
theorem sortI_is {ns ms : List Int} (p : ms.Perm ns) (r : ms.Pairwise (· ≤ ·)) : ms = sortI ns := by
  have h1 : (sortI ns).Pairwise (fun a b => decide (a ≤ b) = true) := List.pairwise_mergeSort (fun a b c h1 h2 => by simp at *; omega) (fun a b => by simp; omega) ns
  have h2 : (sortI ns).Pairwise (· ≤ ·) := h1.imp (fun h => by simpa using h)
  exact List.Perm.eq_of_pairwise (fun x y _ _ h1 h2 => Int.le_antisymm h1 h2) r h2 (p.trans (List.mergeSort_perm ns _).symm)
def fSorted : FA := fun xs S => match xs with
  | [x] => match vw S x with
    | .lst ds => (ints? ds).map fun ns => (.lst ((sortI ns).map D.int), S)
    | _ => none
  | _ => none
theorem cd_sorted (K : PySem.W.Frag) : CallD K (rSortedI K) fSorted := by
  intro Z ρ S S' H xs ds d Q k i h q
  unfold fSorted at h
  split at h
  · obtain ⟨v, rfl, iv⟩ := is1 i
    split at h
    · rename_i es e
      rw [Option.map_eq_some_iff] at h
      obtain ⟨ns, e1, e2⟩ := h
      cases e2
      obtain ⟨a, vs, rfl, hl, r⟩ := vw_lst k iv e
      have := ints_vs r e1
      subst this
      refine ⟨a, ns, rfl, hl, fun ms p pm pw hp => ?_⟩
      rw [sortI_is pm pw]
      exact q.lst k (.ints _) p hp
    · cases h
  · cases h
def fList : FA := fun xs S => match xs with
  | [x] => match vw S x with
    | .lst ds => some (.lst ds, S)
    | .tup ds => some (.lst ds, S)
    | _ => none
  | _ => none
/-- a new list that is to change -/
def fListC : FA := fun xs S => match xs with
  | [x] => match vw S x with
    | .lst ds => newCell ds S
    | .tup ds => newCell ds S
    | _ => none
  | _ => none
def rListOf (K : PySem.W.Frag) : List V → Hp → VK → Prop := fun xs H Q => ∃ p ys, xs = [.ref p] ∧ (SqL K H p ys ∨ SqT K H p ys) ∧ ∀ l, H l = none → Q (.ref l) (upd H l (.lst ys))
theorem cd_list (K : PySem.W.Frag) : CallD K (rListOf K) fList := by
  intro Z ρ S S' H xs ds d Q k i h q
  unfold fList at h
  split at h
  · obtain ⟨v, rfl, iv⟩ := is1 i
    split at h
    · rename_i es e
      cases h
      obtain ⟨a, vs, rfl, hl, r⟩ := vw_lst k iv e
      exact ⟨a, vs, rfl, .inl hl, q.lst k r⟩
    · rename_i es e
      cases h
      obtain ⟨a, vs, rfl, hl, r⟩ := vw_tup iv e
      exact ⟨a, vs, rfl, .inr hl, q.lst k r⟩
    · cases h
  · cases h
theorem cd_listC (K : PySem.W.Frag) : CallD K (rListOf K) fListC := by
  intro Z ρ S S' H xs ds d Q k i h q
  unfold fListC at h
  split at h
  · obtain ⟨v, rfl, iv⟩ := is1 i
    split at h
    · rename_i es e
      obtain ⟨a, vs, rfl, hl, r⟩ := vw_lst k iv e
      exact ⟨a, vs, rfl, .inl hl, (new_cell k r h q).2⟩
    · rename_i es e
      obtain ⟨a, vs, rfl, hl, r⟩ := vw_tup iv e
      exact ⟨a, vs, rfl, .inr hl, (new_cell k r h q).2⟩
    · cases h
  · cases h
def fTuple : FA := fun xs S => match xs with
  | [x] => match vw S x with
    | .lst ds => some (.tup ds, S)
    | .tup ds => some (.tup ds, S)
    | _ => none
  | _ => none
def rTupOf (K : PySem.W.Frag) : List V → Hp → VK → Prop := fun xs H Q => ∃ p ys, xs = [.ref p] ∧ ((SqL K H p ys ∧ ∀ l, H l = none → Q (.ref l) (upd H l (.tup ys))) ∨ (SqT K H p ys ∧ Q (.ref p) H))
theorem cd_tuple (K : PySem.W.Frag) : CallD K (rTupOf K) fTuple := by
  intro Z ρ S S' H xs ds d Q k i h q
  unfold fTuple at h
  split at h
  · obtain ⟨v, rfl, iv⟩ := is1 i
    split at h
    · rename_i es e
      cases h
      obtain ⟨a, vs, rfl, hl, r⟩ := vw_lst k iv e
      exact ⟨a, vs, rfl, .inl ⟨hl, q.tup k r⟩⟩
    · rename_i es e
      cases h
      obtain ⟨a, vs, rfl, hl, r⟩ := vw_tup iv e
      exact ⟨a, vs, rfl, .inr ⟨hl, q.val k (.tup hl r)⟩⟩
    · cases h
  · cases h

/-! ### isinstance -/
def tyN : D → String
  | .non => "NoneType"
  | .bl _ => "bool"
  | .int _ => "int"
  | .str _ => "str"
  | .tup _ => "tuple"
  | .lst _ => "list"
  | .cell _ => "?"
  | .ty _ => "?"
  | .scr _ => "?"
  | .oth _ _ => "?"
def isiB (a b : String) : Bool := a == b || (a == "bool" && b == "int")
theorem isiB_ok : (["NoneType", "bool", "int", "str", "tuple", "list"].all fun a => ["bool", "int", "str", "tuple", "list", "dict"].all fun b => kitB a b == some (isiB a b)) = true := by decide +kernel
def fIsi : FA := fun xs S => match xs with
  | [x, .ty n] => if (["NoneType", "bool", "int", "str", "tuple", "list"].contains (tyN (vw S x)) && ["bool", "int", "str", "tuple", "list", "dict"].contains n) = true then some (.bl (isiB (tyN (vw S x)) n), S) else none
  | _ => none
theorem tyX_of {v : V} {d : D} (k : Ok K Z ρ S H) (i : Is K Z ρ H v d) (h : tyN (vw S d) ≠ "?") : TyX K H v (.type (tyN (vw S d))) := by
  cases i with
  | non => exact .base .non
  | bl b => exact .base (.bl b)
  | int b => exact .base (.int b)
  | str b => exact .base (.str b)
  | ty n => exact absurd rfl h
  | oth _ _ => exact absurd rfl h
  | tup hq r =>
    show TyX K H _ (.type "tuple")
    rcases hq with (hq | ⟨o, hq⟩) | ⟨o, its, m, h1, h2, _⟩
    · exact .base (.tup hq)
    · exact .fTuple hq
    · exact .kTuple h1 h2
  | lst hq r => exact .base (.lst hq.1)
  | scr hq r =>
    show TyX K H _ (.type "list")
    rcases hq with ⟨o, hq, _⟩ | ⟨o, its, m, h1, h2, _⟩
    · exact .base (.frz hq)
    · exact .kList h1 h2
  | cell hc =>
    rename_i a n
    cases q : S[n]? with
    | none => exact absurd (by simp only [vw, q]; rfl) h
    | some c =>
      cases c with
      | lst es =>
        obtain ⟨vs, h1, r⟩ := k.cell n a _ hc q
        have : tyN (vw S (.cell n)) = "list" := by simp only [vw, q]; rfl
        rw [this]
        exact .base (.lst h1)
      | oth t es => exact absurd (by simp only [vw, q]; rfl) h
      | lck t es => exact absurd (by simp only [vw, q]; rfl) h
      | lkl es =>
        obtain ⟨vs, ⟨o, h1⟩, r⟩ := k.cell n a _ hc q
        have : tyN (vw S (.cell n)) = "list" := by simp only [vw, q]; rfl
        rw [this]
        exact .base (.frz h1)
theorem cd_isi (K : PySem.W.Frag) : CallD K (rIsi K) fIsi := by
  intro Z ρ S S' H xs ds d Q k i h q
  unfold fIsi at h
  split at h
  · rename_i x n
    obtain ⟨v, w, rfl, iv, iw⟩ := is2 i
    obtain ⟨hc, e⟩ := of_if h
    cases e
    cases iw
    rw [Bool.and_eq_true, List.contains_iff_mem, List.contains_iff_mem] at hc
    have hk : kitB (tyN (vw S x)) n = some (isiB (tyN (vw S x)) n) := by
      have := isiB_ok
      rw [List.all_eq_true] at this
      have := this _ hc.1
      rw [List.all_eq_true] at this
      simpa using this _ hc.2
    refine ⟨_, _, _, _, _, rfl, .ty n, tyX_of k iv (fun z => ?_), kit_ty hk, q.val k (.bl _)⟩
    rw [z] at hc
    exact absurd hc.1 (by decide)
  · cases h
end
end Pv

/-! Pv7: repr, str; subscripts, slices; methods. -/
namespace Pv
open PySem PySem.Spec PyProof.Rows L2
/-! ### repr -/
mutual
def shOk : D → Bool
  | .non => true
  | .bl _ => true
  | .int i => decide (i.natAbs < 10 ^ 250)
  | .str x => x.cps.toList.all fun c => decide (c < 1114112)
  | .tup xs => shAll xs
  | .lst xs => shAll xs
  | _ => false
def shAll : List D → Bool
  | [] => true
  | x :: xs => shOk x && shAll xs
end
mutual
/-- at most so many signs -/
def rlen : D → Nat
  | .non => 4
  | .bl _ => 5
  | .int _ => 1921
  | .str x => 10 * x.length + 2
  | .tup xs => rlenAll xs + 3
  | .lst xs => rlenAll xs + 3
  | _ => 0
def rlenAll : List D → Nat
  | [] => 0
  | x :: xs => rlen x + 2 + rlenAll xs
end
def shw (d : D) : Str := match toPy d with
  | some p => p.shown
  | none => ⟨#[]⟩
mutual
theorem sh_ok : ∀ (d : D), shOk d = true → ∃ p, toPy d = some p ∧ pln d = true ∧ p.showable = true ∧ p.shown.length ≤ rlen d
  | .non, _ => ⟨_, rfl, rfl, by simp [PyData.showable], by simp only [PyData.shown]; decide⟩
  | .bl b, _ => ⟨_, rfl, rfl, by simp [PyData.showable], by simp only [PyData.shown]; cases b <;> decide⟩
  | .int i, h => by
    have h1 : i.natAbs < 10 ^ 250 := of_decide_eq_true h
    have h2 : i.natAbs.log2 < 1920 := by
      by_cases z : i.natAbs = 0
      · rw [z]; decide
      · exact (Nat.log2_lt z).mpr (Nat.lt_trans h1 (by decide))
    refine ⟨_, rfl, rfl, by simp only [PyData.showable]; exact decide_eq_true h2, ?_⟩
    simp only [PyData.shown]
    exact PyProof.Rows.int_text_len_1921 h2
  | .str x, h => by
    have h' : (x.cps.toList.all fun c => decide (c < 1114112)) = true := h
    refine ⟨_, rfl, h', by simp [PyData.showable], ?_⟩
    simp only [PyData.shown, rlen]
    refine PySem.StrLaws.reprText_len x fun c hc => ?_
    have := List.all_eq_true.mp h' c hc
    have := of_decide_eq_true this
    omega
  | .tup xs, h => by
    obtain ⟨ps, e, c, z, l, n⟩ := shAll_ok xs h
    refine ⟨.tuple ps, by simp [toPy, e], c, by simpa [PyData.showable] using z, ?_⟩
    simp only [PyData.shown, rlen]
    have := tupleText_len_le (PyData.shownAll ps)
    omega
  | .lst xs, h => by
    obtain ⟨ps, e, c, z, l, n⟩ := shAll_ok xs h
    refine ⟨.list ps, by simp [toPy, e], c, by simpa [PyData.showable] using z, ?_⟩
    simp only [PyData.shown, rlen]
    have := listText_len_le (PyData.shownAll ps)
    omega
theorem shAll_ok : ∀ (xs : List D), shAll xs = true → ∃ ps, toPyAll xs = some ps ∧ plnAll xs = true ∧ PyData.showableAll ps = true ∧ ((PyData.shownAll ps).map (·.length)).sum + 2 * (PyData.shownAll ps).length ≤ rlenAll xs ∧ (PyData.shownAll ps).length = xs.length
  | [], _ => ⟨[], rfl, rfl, by simp [PyData.showableAll], by simp [PyData.shownAll, rlenAll], by simp [PyData.shownAll]⟩
  | x :: xs, h => by
    have h' : (shOk x && shAll xs) = true := h
    rw [Bool.and_eq_true] at h'
    obtain ⟨p, e, c, z, l⟩ := sh_ok x h'.1
    obtain ⟨ps, es, cs, zs, ls, ns⟩ := shAll_ok xs h'.2
    refine ⟨p :: ps, by simp [toPyAll, e, es], by simp [plnAll, c, cs], by simp [PyData.showableAll, z, zs], ?_, by simp [PyData.shownAll, ns]⟩
    simp only [PyData.shownAll, rlenAll, List.map_cons, List.sum_cons, List.length_cons]
    omega
end
def reOk (d : D) : Bool := shOk d && decide (dep d ≤ 60) && decide (rlen d ≤ 16000000)
def fRepr : FA := fun xs S => match xs with
  | [x] => if reOk (vw S x) = true then some (.str (shw (vw S x)), S) else none
  | _ => none
def rRepr (K : PySem.W.Frag) : List V → Hp → VK → Prop := fun xs H Q => ∃ x p, xs = [x] ∧ Dp K H x p ∧ p.showable = true ∧ p.canLay0 = true ∧ p.depth ≤ 60 ∧ p.shown.length ≤ sizeLine ∧ Q (.str p.shown) H
section
variable {X : Cx}
theorem cr_repr (hg : X.A.guards = some []) (hu : X.A.units + 64 < cLine) : CallR X (.builtin "repr") (rRepr X.K) := by
  intro pins s σ H xs us Q I r h
  obtain ⟨x, p, rfl, hp, hs, hl, hd, hz, q⟩ := h
  obtain ⟨u, rfl, ru⟩ := vals1 r
  have fin : ∀ (t : Tok) (k : Nat), EP X pins σ Q (.str p.shown t) { s with toks := k } := fun t k => ⟨.str p.shown, H, I.tok k, ⟨t, rfl⟩, q⟩
  have big : ∀ {a : Addr}, u = .ref a → wpAny (model X.prog X.w) X.A (call (.builtin "repr") [u]) (EP X pins σ Q) X.xe s := fun {a} e => by
    subst e
    obtain ⟨as, hr⟩ := Dp.reads I p x _ hp ru
    refine repr_of_reads' hr hs (PyData.noDict_hsm (PyData.hasDict_of_canLay p hl)) hg (by omega) (fun _ _ e => e) (fun h' t tk kk => ?_) hz
    exact ⟨.str p.shown, H, I.kept (t' := tk) kk, ⟨t, rfl⟩, q⟩
  cases hp with
  | non => cases ru; refine PySem.P.repr_of_none ?_; have := fin s.toks (s.toks + 1); simp only [PyData.shown] at this; exact this
  | bl b => cases ru; refine PySem.P.repr_of_bool ?_; have := fin s.toks (s.toks + 1); simp only [PyData.shown] at this; exact this
  | int i =>
    obtain ⟨t, rfl⟩ := ru
    refine PySem.P.repr_of_int (by simpa [PyData.showable] using hs) ?_
    have := fin s.toks (s.toks + 1); simp only [PyData.shown] at this; exact this
  | str y =>
    obtain ⟨t, rfl⟩ := ru
    refine PySem.P.repr_of_str ?_ (by simpa only [PyData.shown] using hz)
    have := fin s.toks (s.toks + 1); simp only [PyData.shown] at this; exact this
  | lst _ _ => exact big ru
  | tup _ _ => exact big ru
theorem cd_repr (K : PySem.W.Frag) : CallD K (rRepr K) fRepr := by
  intro Z ρ S S' H xs ds d Q k i h q
  unfold fRepr at h
  split at h
  · rename_i x
    obtain ⟨v, rfl, iv⟩ := is1 i
    obtain ⟨hc, e⟩ := of_if h
    cases e
    unfold reOk at hc
    rw [Bool.and_eq_true, Bool.and_eq_true, decide_eq_true_eq, decide_eq_true_eq] at hc
    obtain ⟨p, e1, c1, s1, l1⟩ := sh_ok _ hc.1.1
    obtain ⟨p2, e2, c2, d2⟩ := toPy_of _ c1
    rw [e1] at e2
    cases e2
    refine ⟨v, p, rfl, vw_dp k iv e1, s1, c2, by omega, by rw [sizeLine_eq]; omega, ?_⟩
    have e3 : shw (vw S x) = p.shown := by unfold shw; rw [e1]
    rw [e3] at q
    exact q.val k (.str _)
  · cases h
/-- str(x) of a text, an int -/
def fStr : FA := fun xs S => match xs with
  | [.str x] => some (.str x, S)
  | [.int i] => if i.natAbs < 10 ^ 250 then some (.str (toString i), S) else none
  | _ => none
def rStrOf : List V → Hp → VK → Prop := fun xs H Q => (∃ i, xs = [.int i] ∧ i.natAbs.log2 < 1920 ∧ Q (.str (toString i)) H) ∨ ∃ a, xs = [.str a] ∧ Q (.str a) H
theorem cr_str : CallR X (.type "str") rStrOf := CallR.or call_str_int SkE.call_str_str
theorem cd_str (K : PySem.W.Frag) : CallD K rStrOf fStr := by
  intro Z ρ S S' H xs ds d Q k i h q
  unfold fStr at h
  split at h
  · obtain ⟨v, rfl, iv⟩ := is1 i
    cases iv; cases h
    exact .inr ⟨_, rfl, q.val k (.str _)⟩
  · rename_i j
    obtain ⟨v, rfl, iv⟩ := is1 i
    obtain ⟨h1, e⟩ := of_if h
    cases iv; cases e
    have h2 : j.natAbs.log2 < 1920 := by
      by_cases z : j.natAbs = 0
      · rw [z]; decide
      · exact (Nat.log2_lt z).mpr (Nat.lt_trans h1 (by decide))
    exact .inl ⟨_, rfl, h2, q.val k (.str _)⟩
  · cases h

/-! ### subscripts -/
def fIx : F2 := fun x y S => match y with
  | .int i => match vw S x with
    | .lst ds => (atI ds i).map fun d => (d, S)
    | .tup ds => (atI ds i).map fun d => (d, S)
    | .str z => if z.length ≤ 1000000 then (atI z.cps.toList i).map fun c => (.str ⟨#[c]⟩, S) else none
    | _ => none
  | _ => none
theorem atI_is {K : PySem.W.Frag} {Z ρ : List Addr} {H : Hp} {vs : List V} {ds : List D} {i : Int} {d : D} (r : IsAll K Z ρ H vs ds) (e : atI ds i = some d) : ∃ v, atI vs i = some v ∧ Is K Z ρ H v d := by
  unfold atI at e ⊢
  rw [r.length]
  cases q : ixN ds.length i with
  | none => rw [q] at e; cases e
  | some j => rw [q] at e; exact r.get e
theorem od_ix (K : PySem.W.Frag) : OpD K (rIx K) fIx := by
  intro Z ρ S S' H x y dx dy d Q k ix iy h q
  unfold fIx at h
  split at h
  · cases iy
    split at h
    · rename_i es e
      rw [Option.map_eq_some_iff] at h
      obtain ⟨d', e1, e2⟩ := h
      cases e2
      obtain ⟨a, vs, rfl, hl, r⟩ := vw_lst k ix e
      obtain ⟨v, e3, iv⟩ := atI_is r e1
      exact .inl ⟨a, vs, _, v, rfl, rfl, hl, e3, q.val k iv⟩
    · rename_i es e
      rw [Option.map_eq_some_iff] at h
      obtain ⟨d', e1, e2⟩ := h
      cases e2
      obtain ⟨a, vs, rfl, hl, r⟩ := vw_tup ix e
      obtain ⟨v, e3, iv⟩ := atI_is r e1
      exact .inr (.inl ⟨a, vs, _, v, rfl, rfl, hl, e3, q.val k iv⟩)
    · rename_i z e
      by_cases hz : z.length ≤ 1000000
      · rw [if_pos hz, Option.map_eq_some_iff] at h
        obtain ⟨c, e1, e2⟩ := h
        cases e2
        cases vw_str ix e
        exact .inr (.inr ⟨z, _, c, rfl, rfl, sz hz, e1, q.val k (.str _)⟩)
      · rw [if_neg hz] at h; cases h
    · cases h
  · cases h
variable {W : Wsh X.K} {a b e : Expr} {ma mb : EM} {pos : Pos}
theorem em_ix (ha : PEm X W a ma) (hb : PEm X W b mb) (hs : PlainIx b) : PEm X W (.Subscript a b pos) (mBin fIx ma mb) :=
  PE.imp (pe_ix ix_seq ha hb hs) fun _ _ _ h => tOp_of (od_ix _) h
end
end Pv

/-! Pv8: slices, methods. -/
namespace Pv
open PySem PySem.Spec PyProof.Rows L2
abbrev OM := En → M (Option Int)
def PtO (K : PySem.W.Frag) (Z ρ : List Addr) (H : Hp) (Q : Option Int → Hp → Prop) (b : Option Int) (S : Sto) : Prop := ∀ ρ' H', Ext ρ H ρ' H' → Ok K Z ρ' S H' → Q b H'
def tO (K : PySem.W.Frag) (W : Wsh K) (m : OM) : TO := fun σ H Q => ∃ Z ρ S ds, At K Z ρ S H σ ds ∧ MP (m ds S) (PtO K Z ρ H Q) (W.P Z ρ H σ ds)
section
variable {X : Cx} {W : Wsh X.K} {e : Expr} {lo hi : Option Expr} {ma : EM} {ml mh : OM} {pos p2 : Pos}
def POm (X : Cx) (W : Wsh X.K) (e : Option Expr) (m : OM) : Prop := PO X e (tO X.K W m)
theorem PO.imp {e : Option Expr} {t t' : TO} (h : PO X e t) (i : ∀ σ H Q, t' σ H Q → t σ H Q) : PO X e t' := ⟨fun pins s σ H Q I q => h.run pins s σ H Q I (i σ H Q q)⟩
def mNoPart : OM := fun _ => pure none
def mPart (ma : EM) : OM := fun ds => ma ds >>= fun x => match x with
  | .int i => pure (some i)
  | _ => stuck
theorem om_none : POm X W none mNoPart := PO.imp po_none fun σ H Q ⟨Z, ρ, S, ds, t, h⟩ => (MP.pure h : PtO _ _ _ _ _ _ _) ρ H Ext.refl t.ok
theorem om_some (h : PEm X W e ma) : POm X W (some e) (mPart ma) := PO.imp (po_some h) fun σ H Q ⟨Z, ρ, S, ds, t, h⟩ => by
  refine tE_bind t h fun d S1 ρ1 H1 v e1 t1 i q => ?_
  cases i with
  | int b => exact ⟨b, rfl, (MP.pure q : PtO _ _ _ _ _ _ _) ρ1 H1 e1 t1.ok⟩
  | _ => exact q.elim
theorem tO_bind {σ : L2.St} {H : Hp} {ds : En} {Z ρ : List Addr} {S : Sto} {α : Type} {g : Option Int → M α} {P : α → Sto → Prop} (t : At X.K Z ρ S H σ ds) (h : MP ((ml ds >>= g) S) P (W.P Z ρ H σ ds))
    {R : Option Int → Hp → Prop} (k : ∀ d S1 ρ1 H1, Ext ρ H ρ1 H1 → At X.K Z ρ1 S1 H1 σ ds → MP (g d S1) P (W.P Z ρ1 H1 σ ds) → R d H1) : tO X.K W ml σ H R :=
  ⟨Z, ρ, S, ds, t, (MP.bind h).imp (fun d S1 q ρ1 H1 e1 k1 => k d S1 ρ1 H1 e1 (t.up e1 k1) (q.imp (fun _ _ z => z) fun _ _ _ z => W.up t.ok e1 z)) fun _ _ _ z => z⟩
def cutL {α : Type} (xs : List α) (lo hi : Option Int) : List α := (xs.drop (HT.sIx xs.length 0 lo)).take (HT.sIx xs.length xs.length hi - HT.sIx xs.length 0 lo)
def fSl (lo hi : Option Int) : F1 := fun x S => match vw S x with
  | .lst ds => some (.lst (cutL ds lo hi), S)
  | .tup ds => some (.tup (cutL ds lo hi), S)
  | .str z => if z.length ≤ 1000000 then some (.str ⟨(cutL z.cps.toList lo hi).toArray⟩, S) else none
  | _ => none
def mSl (ma : EM) (ml mh : OM) : EM := fun ds => ma ds >>= fun x => ml ds >>= fun l => mh ds >>= fun h => M.lift (fSl l h x)
def rSlAll (K : PySem.W.Frag) : V → Option Int → Option Int → Hp → VK → Prop := fun x lo hi H Q => rSlL K x lo hi H Q ∨ rSlA K x lo hi H Q ∨ rSlS x lo hi H Q
theorem cut_all {K : PySem.W.Frag} {Z ρ : List Addr} {H : Hp} {vs : List V} {ds : List D} (r : IsAll K Z ρ H vs ds) (lo hi : Option Int) : IsAll K Z ρ H (cutV vs lo hi) (cutL ds lo hi) := by
  unfold cutV cutL
  rw [r.length]
  exact (r.drop _).take _
theorem em_sl (he : PEm X W e ma) (hl : POm X W lo ml) (hu : POm X W hi mh) : PEm X W (.Subscript e (.Slice lo hi none p2) pos) (mSl ma ml mh) :=
  PE.imp (pe_slice (sl_list.or (sl_tupA.or sl_str)) he hl hu) fun σ H Q ⟨Z, ρ, S, ds, t, h⟩ => by
    refine tE_bind t h fun d S1 ρ1 H1 v e1 t1 i q1 => ?_
    refine tO_bind t1 q1 fun l S2 ρ2 H2 e2 t2 q2 => ?_
    refine tO_bind t2 q2 fun u S3 ρ3 H3 e3 t3 q3 => ?_
    obtain ⟨d', S4, e4, q4⟩ := MP.lift q3
    have i3 := i.mono t1.ok (e2.trans e3)
    have q5 := q4.up ((e1.trans e2).trans e3)
    unfold fSl at e4
    split at e4
    · rename_i es e5
      cases e4
      obtain ⟨a, vs, rfl, hl, r⟩ := vw_lst t3.ok i3 e5
      exact .inl ⟨a, vs, rfl, hl, q5.lst t3.ok (cut_all r l u)⟩
    · rename_i es e5
      cases e4
      obtain ⟨a, vs, rfl, hl, r⟩ := vw_tup i3 e5
      refine .inr (.inl ⟨a, vs, rfl, hl, fun hw => ?_, fun _ => q5.tup t3.ok (cut_all r l u)⟩)
      have ec : cutL es l u = es := by
        unfold cutL
        rw [← r.length, hw.1, hw.2, List.drop_zero, Nat.sub_zero, r.length, List.take_length]
      rw [ec] at q5
      exact q5.val t3.ok (.tup hl r)
    · rename_i z e5
      obtain ⟨hz, e6⟩ := of_if e4
      cases e6
      cases vw_str i3 e5
      refine .inr (.inr ⟨z, rfl, sz hz, ?_⟩)
      have ez : cutS z l u = ⟨(cutL z.cps.toList l u).toArray⟩ := by
        unfold cutS cutL
        have : z.cps.toList.length = z.length := by simp [Str.length]
        rw [this]
      rw [ez]
      exact q5.val t3.ok (.str _)
    · cases e4
end
/-! ### methods of texts -/
section
variable {X : Cx} {W : Wsh X.K} {o e : Expr} {es : List Expr} {ma : EM} {ms : AM} {name : Str} {apos cpos : Pos} {T id : String} {r : V → List V → Hp → VK → Prop}
abbrev FM := D → List D → Sto → Option (D × Sto)
def mMeth (f : FM) (ma : EM) (ms : AM) : EM := fun ds => ma ds >>= fun x => ms ds >>= fun xs => M.lift (f x xs)
def mMeth0 (f : FM) (ma : EM) : EM := fun ds => ma ds >>= fun x => M.lift (f x [])
/-- a method by values: the receiver's type, what it does -/
structure MethD (K : PySem.W.Frag) (T : String) (r : V → List V → Hp → VK → Prop) (f : FM) : Prop where
  ty : ∀ (Z ρ : List Addr) (S : Sto) (H : Hp) (x : V) (dx : D), Ok K Z ρ S H → Is K Z ρ H x dx → (∃ S1 xs d S', f dx xs S1 = some (d, S')) → tyV K T x H
  run : ∀ (Z ρ : List Addr) (S S' : Sto) (H : Hp) (x : V) (dx : D) (xs : List V) (ds : List D) (d : D) (Q : VK), Ok K Z ρ S H → Is K Z ρ H x dx → IsAll K Z ρ H xs ds → f dx ds S = some (d, S') → Pt K Z ρ H Q d S' → r x xs H Q
theorem MP.some {α β : Type} {m : M α} {f : α → M β} {S : Sto} {P : β → Sto → Prop} (h : MP (m S) (fun a S1 => MP (f a S1) P fun _ _ _ => False) fun _ _ _ => False) : ∃ a S1 b S2, m S = .ok a S1 ∧ f a S1 = .ok b S2 := by
  cases e : m S with
  | ok a S1 =>
    rw [e] at h
    have h' : MP (f a S1) P _ := h
    cases e2 : f a S1 with
    | ok b S2 => exact ⟨a, S1, b, S2, rfl, e2⟩
    | exc c v S2 => rw [e2] at h'; exact h'.elim
    | no => rw [e2] at h'; exact h'.elim
  | exc c v S1 => rw [e] at h; exact h.elim
  | no => rw [e] at h; exact h.elim
/-- texts' methods: the type is told by the receiver alone -/
theorem em_methS {f : FM} (pa : PlainAttrs "str") (slot : Slot "str" name id) (hty : typeOf (.builtin id) = pure (.type "method_descriptor")) (hm : MtR X id r)
    (hf : ∀ (Z ρ : List Addr) (S S' : Sto) (H : Hp) (x : Str) (xs : List V) (ds : List D) (d : D) (Q : VK), Ok X.K Z ρ S H → IsAll X.K Z ρ H xs ds → f (.str x) ds S = some (d, S') → Pt X.K Z ρ H Q d S' → r (.str x) xs H Q)
    (ho : PEm X W o ma) (ha : PAm X W (e :: es) ms)
    (hbase : attributeBase o name X.env (eval o X.env) = eval o X.env := by rfl)
    (hfew : ((backTo cpos (starEach (e :: es) X.env)).all (fun x => !x.1) && (backToKw cpos (keywordEach [] X.env)).all (fun x => x.1.isSome)
      && decide ((e :: es).length + ([] : List Keyword).length + (if ([] : List Keyword).isEmpty then 0 else 1) < 30)) = true := by rfl)
    (hline : (apos.endLine == cpos.line) = true := by rfl) (hs : starEach (e :: es) X.env = (false, eval e X.env) :: starEach es X.env := by rfl) (hplain : (backTo cpos (starEach es X.env)).any (·.1) = false := by rfl) :
    PEm X W (.Call (.Attribute o name apos) (e :: es) [] cpos) (fun ds => ma ds >>= fun x => match x with
      | .str z => ms ds >>= fun xs => M.lift (f (.str z) xs)
      | _ => stuck) :=
  PE.imp (pe_bm pa slot hty hm ho ha hbase hfew hline hs hplain) fun σ H Q ⟨Z, ρ, S, ds, t, h⟩ => by
    refine tE_bind t h fun d S1 ρ1 H1 v e1 t1 i q1 => ?_
    cases i with
    | str z =>
      refine ⟨rfl, tA_bind t1 q1 fun xs S2 ρ2 H2 vs e2 t2 i2 q2 => ?_⟩
      obtain ⟨d', S4, e4, q4⟩ := MP.lift q2
      exact hf Z ρ2 S2 S4 H2 z vs xs d' Q t2.ok i2 e4 (q4.up (e1.trans e2))
    | _ => exact q1.elim
theorem em_methS0 {f : FM} (pa : PlainAttrs "str") (slot : Slot "str" name id) (hty : typeOf (.builtin id) = pure (.type "method_descriptor")) (hm : MtR X id r)
    (hf : ∀ (Z ρ : List Addr) (S S' : Sto) (H : Hp) (x : Str) (d : D) (Q : VK), Ok X.K Z ρ S H → f (.str x) [] S = some (d, S') → Pt X.K Z ρ H Q d S' → r (.str x) [] H Q)
    (ho : PEm X W o ma)
    (hbase : attributeBase o name X.env (eval o X.env) = eval o X.env := by rfl) (hline : (apos.endLine == cpos.line) = true := by rfl) :
    PEm X W (.Call (.Attribute o name apos) [] [] cpos) (fun ds => ma ds >>= fun x => match x with
      | .str z => M.lift (f (.str z) [])
      | _ => stuck) :=
  PE.imp (pe_bm0 pa slot hty hm ho hbase hline) fun σ H Q ⟨Z, ρ, S, ds, t, h⟩ => by
    refine tE_bind t h fun d S1 ρ1 H1 v e1 t1 i q1 => ?_
    cases i with
    | str z =>
      obtain ⟨d', S4, e4, q4⟩ := MP.lift q1
      exact ⟨rfl, hf Z ρ1 S1 S4 H1 z d' Q t1.ok e4 (q4.up e1)⟩
    | _ => exact q1.elim
/-- the cell holds a list -/
def M.isL (k : Nat) : M Unit := fun S => match S[k]? with
  | some (.lst _) => .ok () S
  | _ => .no
theorem mp_isL {α : Type} {k : Nat} {f : Unit → M α} {S : Sto} {P : α → Sto → Prop} {E : Str → D → Sto → Prop} (h : MP ((M.isL k >>= f) S) P E) : ∃ xs, S[k]? = some (.lst xs) ∧ MP (f () S) P E := by
  have h' := MP.bind h
  unfold M.isL at h'
  cases q : S[k]? with
  | none => rw [q] at h'; exact h'.elim
  | some c =>
    rw [q] at h'
    cases c with
    | lst xs => exact ⟨xs, rfl, h'⟩
    | oth t xs => exact h'.elim
    | lck t xs => exact h'.elim
    | lkl xs => exact h'.elim
/-- methods that change a list -/
theorem em_methL {f : FM} (pa : PlainAttrs "list") (slot : Slot "list" name id) (hty : typeOf (.builtin id) = pure (.type "method_descriptor")) (hm : MtR X id r)
    (hf : ∀ (Z ρ : List Addr) (S S' : Sto) (H : Hp) (k : Nat) (x : V) (xs : List V) (ds : List D) (d : D) (Q : VK), Ok X.K Z ρ S H → Is X.K Z ρ H x (.cell k) → IsAll X.K Z ρ H xs ds → f (.cell k) ds S = some (d, S') → Pt X.K Z ρ H Q d S' → r x xs H Q)
    (ho : PEm X W o ma) (ha : PAm X W (e :: es) ms)
    (hbase : attributeBase o name X.env (eval o X.env) = eval o X.env := by rfl)
    (hfew : ((backTo cpos (starEach (e :: es) X.env)).all (fun x => !x.1) && (backToKw cpos (keywordEach [] X.env)).all (fun x => x.1.isSome)
      && decide ((e :: es).length + ([] : List Keyword).length + (if ([] : List Keyword).isEmpty then 0 else 1) < 30)) = true := by rfl)
    (hline : (apos.endLine == cpos.line) = true := by rfl) (hs : starEach (e :: es) X.env = (false, eval e X.env) :: starEach es X.env := by rfl) (hplain : (backTo cpos (starEach es X.env)).any (·.1) = false := by rfl) :
    PEm X W (.Call (.Attribute o name apos) (e :: es) [] cpos) (fun ds => ma ds >>= fun x => match x with
      | .cell k => M.isL k >>= fun _ => ms ds >>= fun xs => M.lift (f (.cell k) xs)
      | _ => stuck) :=
  PE.imp (pe_bm pa slot hty hm ho ha hbase hfew hline hs hplain) fun σ H Q ⟨Z, ρ, S, ds, t, h⟩ => by
    refine tE_bind t h fun d S1 ρ1 H1 v e1 t1 i q1 => ?_
    cases i with
    | cell hc =>
      rename_i a k
      obtain ⟨es, hk, q1⟩ := mp_isL q1
      obtain ⟨ws, h4, _⟩ := t1.ok.cell k a _ hc hk
      refine ⟨.inl ⟨rfl, ws, SqL.of h4⟩, tA_bind t1 q1 fun xs S2 ρ2 H2 vs e2 t2 i2 q2 => ?_⟩
      obtain ⟨d', S4, e4, q4⟩ := MP.lift q2
      exact hf Z ρ2 S2 S4 H2 k (.ref a) vs xs d' Q t2.ok (.cell (e2.get hc)) i2 e4 (q4.up (e1.trans e2))
    | _ => exact q1.elim
theorem em_methL0 {f : FM} (pa : PlainAttrs "list") (slot : Slot "list" name id) (hty : typeOf (.builtin id) = pure (.type "method_descriptor")) (hm : MtR X id r)
    (hf : ∀ (Z ρ : List Addr) (S S' : Sto) (H : Hp) (k : Nat) (x : V) (d : D) (Q : VK), Ok X.K Z ρ S H → Is X.K Z ρ H x (.cell k) → f (.cell k) [] S = some (d, S') → Pt X.K Z ρ H Q d S' → r x [] H Q)
    (ho : PEm X W o ma)
    (hbase : attributeBase o name X.env (eval o X.env) = eval o X.env := by rfl) (hline : (apos.endLine == cpos.line) = true := by rfl) :
    PEm X W (.Call (.Attribute o name apos) [] [] cpos) (fun ds => ma ds >>= fun x => match x with
      | .cell k => M.isL k >>= fun _ => M.lift (f (.cell k) [])
      | _ => stuck) :=
  PE.imp (pe_bm0 pa slot hty hm ho hbase hline) fun σ H Q ⟨Z, ρ, S, ds, t, h⟩ => by
    refine tE_bind t h fun d S1 ρ1 H1 v e1 t1 i q1 => ?_
    cases i with
    | cell hc =>
      rename_i a k
      obtain ⟨es, hk, q1⟩ := mp_isL q1
      obtain ⟨ws, h4, _⟩ := t1.ok.cell k a _ hc hk
      obtain ⟨d', S4, e4, q4⟩ := MP.lift q1
      exact ⟨.inl ⟨rfl, ws, SqL.of h4⟩, hf Z ρ1 S1 S4 H1 k (.ref a) d' Q t1.ok (.cell hc) e4 (q4.up e1)⟩
    | _ => exact q1.elim
end
end Pv

/-! Pv9: methods by name; statements. -/
namespace Pv
open PySem PySem.Spec PyProof.Rows L2
/-! ### texts' methods -/
def fStarts : FM := fun x xs S => match x, xs with
  | .str a, [.str b] => some (.bl (Txt.startswith a b), S)
  | .str a, [.str b, .int i] => some (.bl (Txt.startswith3 a b i), S)
  | _, _ => none
def fEnds : FM := fun x xs S => match x, xs with
  | .str a, [.str b] => some (.bl (Txt.endswith a b), S)
  | _, _ => none
def fUpper : FM := fun x xs S => match x, xs with
  | .str a, [] => if a.length ≤ 1000000 then some (.str (Txt.upper a), S) else none
  | _, _ => none
def fJoin : FM := fun x xs S => match x, xs with
  | .str a, [y] => match vw S y with
    | .lst ds => (strs? ds).bind fun ys => if (ys.map (·.length)).sum + ys.length * a.length ≤ 1000000 then some (.str (Txt.join a ys), S) else none
    | .tup ds => (strs? ds).bind fun ys => if (ys.map (·.length)).sum + ys.length * a.length ≤ 1000000 then some (.str (Txt.join a ys), S) else none
    | _ => none
  | _, _ => none
section
variable {X : Cx} {W : Wsh X.K} {o e : Expr} {es : List Expr} {ma mb : EM} {ms : AM} {apos cpos : Pos}
/-- the receiver's text, then the rest -/
def mStrM (f : FM) (ma : EM) (ms : AM) : EM := fun ds => ma ds >>= fun x => match x with
  | .str z => ms ds >>= fun xs => M.lift (f (.str z) xs)
  | _ => stuck
def mStrM0 (f : FM) (ma : EM) : EM := fun ds => ma ds >>= fun x => match x with
  | .str z => M.lift (f (.str z) [])
  | _ => stuck
def mCellM (f : FM) (ma : EM) (ms : AM) : EM := fun ds => ma ds >>= fun x => match x with
  | .cell k => M.isL k >>= fun _ => ms ds >>= fun xs => M.lift (f (.cell k) xs)
  | _ => stuck
def mCellM0 (f : FM) (ma : EM) : EM := fun ds => ma ds >>= fun x => match x with
  | .cell k => M.isL k >>= fun _ => M.lift (f (.cell k) [])
  | _ => stuck
theorem em_starts (ho : PEm X W o ma) (ha : PAm X W (e :: es) ms)
    (hbase : attributeBase o "startswith" X.env (eval o X.env) = eval o X.env := by rfl)
    (hfew : ((backTo cpos (starEach (e :: es) X.env)).all (fun x => !x.1) && (backToKw cpos (keywordEach [] X.env)).all (fun x => x.1.isSome)
      && decide ((e :: es).length + ([] : List Keyword).length + (if ([] : List Keyword).isEmpty then 0 else 1) < 30)) = true := by rfl)
    (hline : (apos.endLine == cpos.line) = true := by rfl) (hs : starEach (e :: es) X.env = (false, eval e X.env) :: starEach es X.env := by rfl) (hplain : (backTo cpos (starEach es X.env)).any (·.1) = false := by rfl) :
    PEm X W (.Call (.Attribute o "startswith" apos) (e :: es) [] cpos) (mStrM fStarts ma ms) := by
  refine em_methS (f := fStarts) PySem.F.plainAttrs_str PySem.F.slot_str_startswith PySem.F.type_str_startswith (MtR.or mt_startswith mt_startswith3) (fun Z ρ S S' H x xs ds d Q k i h q => ?_) ho ha hbase hfew hline hs hplain
  unfold fStarts at h
  split at h
  · rename_i x1 x2 a b e1
    cases e1
    obtain ⟨v, rfl, iv⟩ := is1 i
    cases iv; cases h
    exact .inl ⟨_, _, rfl, rfl, q.val k (.bl _)⟩
  · rename_i x1 x2 a b j e1
    cases e1
    obtain ⟨v, w, rfl, iv, iw⟩ := is2 i
    cases iv; cases iw; cases h
    exact .inr ⟨_, _, _, rfl, rfl, q.val k (.bl _)⟩
  · cases h
theorem em_ends (ho : PEm X W o ma) (ha : PAm X W (e :: es) ms)
    (hbase : attributeBase o "endswith" X.env (eval o X.env) = eval o X.env := by rfl)
    (hfew : ((backTo cpos (starEach (e :: es) X.env)).all (fun x => !x.1) && (backToKw cpos (keywordEach [] X.env)).all (fun x => x.1.isSome)
      && decide ((e :: es).length + ([] : List Keyword).length + (if ([] : List Keyword).isEmpty then 0 else 1) < 30)) = true := by rfl)
    (hline : (apos.endLine == cpos.line) = true := by rfl) (hs : starEach (e :: es) X.env = (false, eval e X.env) :: starEach es X.env := by rfl) (hplain : (backTo cpos (starEach es X.env)).any (·.1) = false := by rfl) :
    PEm X W (.Call (.Attribute o "endswith" apos) (e :: es) [] cpos) (mStrM fEnds ma ms) := by
  refine em_methS (f := fEnds) PySem.F.plainAttrs_str PySem.F.slot_str_endswith PySem.F.type_str_endswith mt_endswith (fun Z ρ S S' H x xs ds d Q k i h q => ?_) ho ha hbase hfew hline hs hplain
  unfold fEnds at h
  split at h
  · rename_i x1 x2 a b e1
    cases e1
    obtain ⟨v, rfl, iv⟩ := is1 i
    cases iv; cases h
    exact ⟨_, _, rfl, rfl, q.val k (.bl _)⟩
  · cases h
theorem em_join (ho : PEm X W o ma) (ha : PAm X W (e :: es) ms)
    (hbase : attributeBase o "join" X.env (eval o X.env) = eval o X.env := by rfl)
    (hfew : ((backTo cpos (starEach (e :: es) X.env)).all (fun x => !x.1) && (backToKw cpos (keywordEach [] X.env)).all (fun x => x.1.isSome)
      && decide ((e :: es).length + ([] : List Keyword).length + (if ([] : List Keyword).isEmpty then 0 else 1) < 30)) = true := by rfl)
    (hline : (apos.endLine == cpos.line) = true := by rfl) (hs : starEach (e :: es) X.env = (false, eval e X.env) :: starEach es X.env := by rfl) (hplain : (backTo cpos (starEach es X.env)).any (·.1) = false := by rfl) :
    PEm X W (.Call (.Attribute o "join" apos) (e :: es) [] cpos) (mStrM fJoin ma ms) := by
  refine em_methS (f := fJoin) PySem.F.plainAttrs_str PySem.F.slot_str_join PySem.F.type_str_join mt_join (fun Z ρ S S' H x xs ds d Q k i h q => ?_) ho ha hbase hfew hline hs hplain
  unfold fJoin at h
  split at h
  · rename_i x1 x2 a y e1
    cases e1
    obtain ⟨v, rfl, iv⟩ := is1 i
    split at h
    · rename_i es e2
      rw [Option.bind_eq_some_iff] at h
      obtain ⟨ys, e3, h⟩ := h
      obtain ⟨hz, e4⟩ := of_if h
      cases e4
      obtain ⟨p, vs, rfl, hl, r⟩ := vw_lst k iv e2
      have := strs_vs r e3
      subst this
      exact ⟨_, p, ys, rfl, rfl, .inl hl, by omega, q.val k (.str _)⟩
    · rename_i es e2
      rw [Option.bind_eq_some_iff] at h
      obtain ⟨ys, e3, h⟩ := h
      obtain ⟨hz, e4⟩ := of_if h
      cases e4
      obtain ⟨p, vs, rfl, hl, r⟩ := vw_tup iv e2
      have := strs_vs r e3
      subst this
      exact ⟨_, p, ys, rfl, rfl, .inr hl, by omega, q.val k (.str _)⟩
    · cases h
  · cases h
theorem em_upper (ho : PEm X W o ma)
    (hbase : attributeBase o "upper" X.env (eval o X.env) = eval o X.env := by rfl) (hline : (apos.endLine == cpos.line) = true := by rfl) :
    PEm X W (.Call (.Attribute o "upper" apos) [] [] cpos) (mStrM0 fUpper ma) := by
  refine em_methS0 (f := fUpper) PySem.F.plainAttrs_str PySem.F.slot_str_upper PySem.F.type_str_upper mt_upper (fun Z ρ S S' H x d Q k h q => ?_) ho hbase hline
  unfold fUpper at h
  split at h
  · rename_i x1 x2 a e1 e9
    cases e1
    obtain ⟨hz, e4⟩ := of_if h
    cases e4
    exact ⟨_, rfl, rfl, by omega, q.val k (.str _)⟩
  · rename_i hno
    exact (hno _ rfl rfl).elim
/-! ### lists that change -/
def fAppend : FM := fun x xs S => match x, xs with
  | .cell k, [y] => match S[k]? with
    | some (.lst ds) => if ds.length < 1000000 then some (.non, S.set k (.lst (ds ++ [y]))) else none
    | _ => none
  | _, _ => none
theorem em_append (ho : PEm X W o ma) (ha : PAm X W (e :: es) ms)
    (hbase : attributeBase o "append" X.env (eval o X.env) = eval o X.env := by rfl)
    (hfew : ((backTo cpos (starEach (e :: es) X.env)).all (fun x => !x.1) && (backToKw cpos (keywordEach [] X.env)).all (fun x => x.1.isSome)
      && decide ((e :: es).length + ([] : List Keyword).length + (if ([] : List Keyword).isEmpty then 0 else 1) < 30)) = true := by rfl)
    (hline : (apos.endLine == cpos.line) = true := by rfl) (hs : starEach (e :: es) X.env = (false, eval e X.env) :: starEach es X.env := by rfl) (hplain : (backTo cpos (starEach es X.env)).any (·.1) = false := by rfl) :
    PEm X W (.Call (.Attribute o "append" apos) (e :: es) [] cpos) (mCellM fAppend ma ms) := by
  refine em_methL (f := fAppend) PySem.F.plainAttrs_list PySem.F.slot_list_append PySem.F.type_list_append mt_append (fun Z ρ S S' H n x xs ds d Q k ix i h q => ?_) ho ha hbase hfew hline hs hplain
  unfold fAppend at h
  split at h
  · rename_i x1 x2 m y e1
    cases e1
    obtain ⟨v, rfl, iv⟩ := is1 i
    cases ix with
    | cell hc =>
      rename_i a
      split at h
      · rename_i es e2
        obtain ⟨hz, e3⟩ := of_if h
        cases e3
        obtain ⟨vs, h1, r⟩ := k.cellL hc e2
        obtain ⟨k2, e2⟩ := k.write hc ⟨_, h1, trivial⟩ (r.append (.cons iv .nil))
        exact ⟨a, vs, v, rfl, rfl, h1, by rw [r.length, sizeLine_eq]; omega, q _ _ _ e2 k2 .non⟩
      · cases h
  · cases h
def fPop0 : FM := fun x xs S => match x, xs with
  | .cell k, [] => match S[k]? with
    | some (.lst ds) => match ds[ds.length - 1]? with
      | some d => some (d, S.set k (.lst ds.dropLast))
      | none => none
    | _ => none
  | _, _ => none
theorem IsAll.dropLast {K : PySem.W.Frag} {Z ρ : List Addr} {H : Hp} {vs : List V} {ds : List D} (r : IsAll K Z ρ H vs ds) : IsAll K Z ρ H vs.dropLast ds.dropLast := by
  rw [List.dropLast_eq_take, List.dropLast_eq_take, r.length]
  exact r.take _
theorem IsAll.eraseIdx {K : PySem.W.Frag} {Z ρ : List Addr} {H : Hp} {vs : List V} {ds : List D} (r : IsAll K Z ρ H vs ds) (i : Nat) : IsAll K Z ρ H (vs.eraseIdx i) (ds.eraseIdx i) := by
  rw [List.eraseIdx_eq_take_drop_succ, List.eraseIdx_eq_take_drop_succ]
  exact (r.take _).append (r.drop _)
theorem em_pop0 (ho : PEm X W o ma)
    (hbase : attributeBase o "pop" X.env (eval o X.env) = eval o X.env := by rfl) (hline : (apos.endLine == cpos.line) = true := by rfl) :
    PEm X W (.Call (.Attribute o "pop" apos) [] [] cpos) (mCellM0 fPop0 ma) := by
  refine em_methL0 (f := fPop0) PySem.F.plainAttrs_list PySem.F.slot_list_pop PySem.F.type_list_pop mt_pop (fun Z ρ S S' H n x d Q k ix h q => ?_) ho hbase hline
  unfold fPop0 at h
  split at h
  · rename_i x1 x2 m e1 e9
    cases e1
    cases ix with
    | cell hc =>
      rename_i a
      split at h
      · rename_i es e2
        split at h
        · rename_i d' e3
          cases h
          obtain ⟨vs, h1, r⟩ := k.cellL hc e2
          obtain ⟨k2, e4⟩ := k.write hc ⟨_, h1, trivial⟩ r.dropLast
          obtain ⟨v, e5, iv⟩ := r.get e3
          exact ⟨a, vs, v, rfl, rfl, h1, by rw [r.length]; exact e5, q _ _ _ e4 k2 (iv.mono k e4)⟩
        · cases h
      · cases h
  · rename_i hno
    exact (hno _ rfl rfl).elim
def fPopAt : FM := fun x xs S => match x, xs with
  | .cell k, [.int i] => match S[k]? with
    | some (.lst ds) => if 0 ≤ i ∧ i < ds.length ∧ ds.length ≤ 1000000 then match ds[i.toNat]? with
        | some d => some (d, S.set k (.lst (ds.eraseIdx i.toNat)))
        | none => none
      else none
    | _ => none
  | _, _ => none
theorem em_popAt (ho : PEm X W o ma) (ha : PAm X W (e :: es) ms)
    (hbase : attributeBase o "pop" X.env (eval o X.env) = eval o X.env := by rfl)
    (hfew : ((backTo cpos (starEach (e :: es) X.env)).all (fun x => !x.1) && (backToKw cpos (keywordEach [] X.env)).all (fun x => x.1.isSome)
      && decide ((e :: es).length + ([] : List Keyword).length + (if ([] : List Keyword).isEmpty then 0 else 1) < 30)) = true := by rfl)
    (hline : (apos.endLine == cpos.line) = true := by rfl) (hs : starEach (e :: es) X.env = (false, eval e X.env) :: starEach es X.env := by rfl) (hplain : (backTo cpos (starEach es X.env)).any (·.1) = false := by rfl) :
    PEm X W (.Call (.Attribute o "pop" apos) (e :: es) [] cpos) (mCellM fPopAt ma ms) := by
  refine em_methL (f := fPopAt) PySem.F.plainAttrs_list PySem.F.slot_list_pop PySem.F.type_list_pop mt_popAt (fun Z ρ S S' H n x xs ds d Q k ix i h q => ?_) ho ha hbase hfew hline hs hplain
  unfold fPopAt at h
  split at h
  · rename_i x1 x2 m j e1
    cases e1
    obtain ⟨v, rfl, iv⟩ := is1 i
    cases iv
    cases ix with
    | cell hc =>
      rename_i a
      split at h
      · rename_i es e2
        by_cases hz : 0 ≤ j ∧ j < es.length ∧ es.length ≤ 1000000
        · rw [if_pos hz] at h
          split at h
          · rename_i d' e3
            cases h
            obtain ⟨vs, h1, r⟩ := k.cellL hc e2
            obtain ⟨k2, e4⟩ := k.write hc ⟨_, h1, trivial⟩ (r.eraseIdx j.toNat)
            obtain ⟨w, e5, iw⟩ := r.get e3
            exact ⟨a, vs, j, j.toNat, w, rfl, rfl, h1, by omega, by omega, seqIndex_of hz.1 (by rw [r.length]; exact hz.2.1), e5, q _ _ _ e4 k2 (iw.mono k e4)⟩
          · cases h
        · rw [if_neg hz] at h; cases h
      · cases h
  · cases h
def fExtend : FM := fun x xs S => match x, xs with
  | .cell k, [y] => match S[k]?, vl S y with
    | some (.lst ds), some es => if ds.length + es.length ≤ 1000000 then some (.non, S.set k (.lst (ds ++ es))) else none
    | _, _ => none
  | _, _ => none
theorem em_extend (ho : PEm X W o ma) (ha : PAm X W (e :: es) ms)
    (hbase : attributeBase o "extend" X.env (eval o X.env) = eval o X.env := by rfl)
    (hfew : ((backTo cpos (starEach (e :: es) X.env)).all (fun x => !x.1) && (backToKw cpos (keywordEach [] X.env)).all (fun x => x.1.isSome)
      && decide ((e :: es).length + ([] : List Keyword).length + (if ([] : List Keyword).isEmpty then 0 else 1) < 30)) = true := by rfl)
    (hline : (apos.endLine == cpos.line) = true := by rfl) (hs : starEach (e :: es) X.env = (false, eval e X.env) :: starEach es X.env := by rfl) (hplain : (backTo cpos (starEach es X.env)).any (·.1) = false := by rfl) :
    PEm X W (.Call (.Attribute o "extend" apos) (e :: es) [] cpos) (mCellM fExtend ma ms) := by
  refine em_methL (f := fExtend) PySem.F.plainAttrs_list PySem.F.slot_list_extend PySem.F.type_list_extend mt_extend (fun Z ρ S S' H n x xs ds d Q k ix i h q => ?_) ho ha hbase hfew hline hs hplain
  unfold fExtend at h
  split at h
  · rename_i x1 x2 m y e1
    cases e1
    obtain ⟨v, rfl, iv⟩ := is1 i
    cases ix with
    | cell hc =>
      rename_i a
      split at h
      · rename_i es fs e2 e3
        obtain ⟨hz, e4⟩ := of_if h
        cases e4
        obtain ⟨vs, h1, r⟩ := k.cellL hc e2
        obtain ⟨b, ws, rfl, hb, rb⟩ := vl_tr k iv e3
        obtain ⟨k2, e2⟩ := k.write hc ⟨_, h1, trivial⟩ (r.append rb)
        exact ⟨a, b, vs, ws, rfl, rfl, h1, hb, by rw [r.length, rb.length]; exact sz hz, q _ _ _ e2 k2 .non⟩
      · cases h
  · cases h
end
end Pv

/-! Pv10: statements. -/
noncomputable section
namespace Pv
open PySem PySem.Spec PyProof.Rows L2
/-- how a statement ends -/
inductive Fl where
  | nx (ds : En)
  | rt (d : D)
  | bk (ds : En)
  | ct (ds : En)
  | ex (c : Str) (v : D) (ds : En)
abbrev SM := En → M Fl
def PtS (K : PySem.W.Frag) (W : Wsh K) (Z ρ : List Addr) (H : Hp) (D : Ends) (fl : Fl) (S : Sto) : Prop := match fl with
  | .nx ds => ∀ ρ' H' σ', Ext ρ H ρ' H' → At K Z ρ' S H' σ' ds → D.nx σ' H'
  | .bk ds => ∀ ρ' H' σ', Ext ρ H ρ' H' → At K Z ρ' S H' σ' ds → D.bk σ' H'
  | .ct ds => ∀ ρ' H' σ', Ext ρ H ρ' H' → At K Z ρ' S H' σ' ds → D.ct σ' H'
  | .rt d => ∀ ρ' H' v, Ext ρ H ρ' H' → Ok K Z ρ' S H' → Is K Z ρ' H' v d → D.rt v H'
  | .ex c v ds => ∀ ρ' H' σ' S', Ext ρ H ρ' H' → At K Z ρ' S' H' σ' ds → W.P Z ρ' H' σ' ds c v S
def No : Str → D → Sto → Prop := fun _ _ _ => False
def tS (K : PySem.W.Frag) (W : Wsh K) (m : SM) : TS := fun D σ H => ∃ Z ρ S ds, At K Z ρ S H σ ds ∧ MP (m ds S) (PtS K W Z ρ H D) No
/-- a value's computation within a statement: an exception keeps the slots -/
def M.tr {α : Type} (m : M α) (ds : En) (k : α → M Fl) : M Fl := fun S => match m S with
  | .ok a S' => k a S'
  | .exc c v S' => .ok (.ex c v ds) S'
  | .no => .no
section
variable {K : PySem.W.Frag} {W : Wsh K} {Z ρ ρ' : List Addr} {S S' : Sto} {H H' : Hp} {D D' : Ends} {fl : Fl} {σ : L2.St} {ds : En}
theorem PtS.up (e : Ext ρ H ρ' H') (h : PtS K W Z ρ H D fl S) : PtS K W Z ρ' H' D fl S := by
  cases fl with
  | nx ds => exact fun ρ2 H2 σ2 e2 t => h ρ2 H2 σ2 (e.trans e2) t
  | bk ds => exact fun ρ2 H2 σ2 e2 t => h ρ2 H2 σ2 (e.trans e2) t
  | ct ds => exact fun ρ2 H2 σ2 e2 t => h ρ2 H2 σ2 (e.trans e2) t
  | rt d => exact fun ρ2 H2 v e2 k i => h ρ2 H2 v (e.trans e2) k i
  | ex c v ds => exact fun ρ2 H2 σ2 S2 e2 t => h ρ2 H2 σ2 S2 (e.trans e2) t
theorem MP.tr {α : Type} {m : M α} {k : α → M Fl} (t : At K Z ρ S H σ ds) (h : MP (M.tr m ds k S) (PtS K W Z ρ H D) No) : MP (m S) (fun a S1 => MP (k a S1) (PtS K W Z ρ H D) No) (W.P Z ρ H σ ds) := by
  unfold M.tr at h
  cases e : m S with
  | ok a S1 => rw [e] at h; exact h
  | exc c v S1 => rw [e] at h; exact h ρ H σ S Ext.refl t
  | no => rw [e] at h; exact h
end
section
variable {X : Cx} {W : Wsh X.K} {st : Stmt} {rest : List Stmt} {m m2 : SM} {ma : EM} {mt : TM} {e : Expr} {pos : Pos}
def PSm (X : Cx) (W : Wsh X.K) (st : Stmt) (m : SM) : Prop := PS X st (tS X.K W m)
def PSsm (X : Cx) (W : Wsh X.K) (st : List Stmt) (m : SM) : Prop := PSs X st (tS X.K W m)
theorem PS.imp {t t' : TS} (h : PS X st t) (i : ∀ D σ H, t' D σ H → t D σ H) : PS X st t' := ⟨fun pins s σ H D I q => h.run pins s σ H D I (i D σ H q)⟩
theorem PSs.imp {t t' : TS} (h : PSs X rest t) (i : ∀ D σ H, t' D σ H → t D σ H) : PSs X rest t' := ⟨fun pins s σ H D I q => h.run pins s σ H D I (i D σ H q)⟩
theorem tE_tr {σ : L2.St} {H : Hp} {ds : En} {Z ρ : List Addr} {S : Sto} {D : Ends} {k : Pv.D → M Fl} (t : At X.K Z ρ S H σ ds) (h : MP (M.tr (ma ds) ds k S) (PtS X.K W Z ρ H D) No)
    {R : VK} (kk : ∀ d S1 ρ1 H1 v, Ext ρ H ρ1 H1 → At X.K Z ρ1 S1 H1 σ ds → Is X.K Z ρ1 H1 v d → MP (k d S1) (PtS X.K W Z ρ1 H1 D) No → R v H1) : tE X.K W ma σ H R :=
  ⟨Z, ρ, S, ds, t, (MP.tr t h).imp (fun d S1 q ρ1 H1 v e1 k1 i => kk d S1 ρ1 H1 v e1 (t.up e1 k1) i (q.imp (fun _ _ z => z.up e1) fun _ _ _ z => z)) fun _ _ _ z => z⟩
theorem tT_tr {σ : L2.St} {H : Hp} {ds : En} {Z ρ : List Addr} {S : Sto} {D : Ends} {k : Bool → M Fl} (t : At X.K Z ρ S H σ ds) (h : MP (M.tr (mt ds) ds k S) (PtS X.K W Z ρ H D) No)
    {R : Bool → Hp → Prop} (kk : ∀ d S1 ρ1 H1, Ext ρ H ρ1 H1 → At X.K Z ρ1 S1 H1 σ ds → MP (k d S1) (PtS X.K W Z ρ1 H1 D) No → R d H1) : tT X.K W mt σ H R :=
  ⟨Z, ρ, S, ds, t, (MP.tr t h).imp (fun d S1 q ρ1 H1 e1 k1 => kk d S1 ρ1 H1 e1 (t.up e1 k1) (q.imp (fun _ _ z => z.up e1) fun _ _ _ z => z)) fun _ _ _ z => z⟩
/-- behind: what comes next -/
def aft (m2 : SM) : Fl → M Fl
  | .nx ds => m2 ds
  | fl => pure fl
def mSeq (m m2 : SM) : SM := fun ds => m ds >>= aft m2
def mNext : SM := fun ds => pure (.nx ds)
theorem ssm_nil : PSsm X W [] mNext := PSs.imp pss_nil fun D σ H ⟨Z, ρ, S, ds, t, h⟩ => (MP.pure h : PtS _ _ _ _ _ _ _ _) ρ H σ Ext.refl t
theorem seq_of {D : Ends} {Z ρ : List Addr} {H : Hp} {ds : En} {S : Sto} {nx : L2.St → Hp → Prop} (h : MP (mSeq m m2 ds S) (PtS X.K W Z ρ H D) No)
    (kk : ∀ ds1 S1 ρ1 H1 σ1, Ext ρ H ρ1 H1 → At X.K Z ρ1 S1 H1 σ1 ds1 → MP (m2 ds1 S1) (PtS X.K W Z ρ1 H1 D) No → nx σ1 H1) : MP (m ds S) (PtS X.K W Z ρ H { D with nx := nx }) No := by
  refine (MP.bind h).imp (fun fl S1 q => ?_) fun _ _ _ z => z
  cases fl with
  | nx ds1 => exact fun ρ1 H1 σ1 e1 t1 => kk ds1 S1 ρ1 H1 σ1 e1 t1 ((show MP (m2 ds1 S1) _ _ from q).imp (fun _ _ z => z.up e1) fun _ _ _ z => z)
  | bk ds1 => exact (MP.pure q : PtS _ _ _ _ _ _ _ _)
  | ct ds1 => exact (MP.pure q : PtS _ _ _ _ _ _ _ _)
  | rt d => exact (MP.pure q : PtS _ _ _ _ _ _ _ _)
  | ex c v ds1 => exact (MP.pure q : PtS _ _ _ _ _ _ _ _)
theorem ssm_cons (h1 : PSm X W st m) (h2 : PSsm X W rest m2) : PSsm X W (st :: rest) (mSeq m m2) :=
  PSs.imp (pss_cons h1 h2) fun D σ H ⟨Z, ρ, S, ds, t, h⟩ => ⟨Z, ρ, S, ds, t, seq_of h fun ds1 S1 ρ1 H1 σ1 e1 t1 q => ⟨Z, ρ1, S1, ds1, t1, q⟩⟩
theorem ssm_one (h1 : PSm X W st m) : PSsm X W [st] m := pss_one h1
theorem sm_pass : PSm X W (.Pass pos) mNext := PS.imp ps_pass fun D σ H ⟨Z, ρ, S, ds, t, h⟩ => (MP.pure h : PtS _ _ _ _ _ _ _ _) ρ H σ Ext.refl t
def mBreak : SM := fun ds => pure (.bk ds)
def mCont : SM := fun ds => pure (.ct ds)
theorem sm_break : PSm X W (.Break pos) mBreak := PS.imp ps_break fun D σ H ⟨Z, ρ, S, ds, t, h⟩ => (MP.pure h : PtS _ _ _ _ _ _ _ _) ρ H σ Ext.refl t
theorem sm_cont : PSm X W (.Continue pos) mCont := PS.imp ps_continue fun D σ H ⟨Z, ρ, S, ds, t, h⟩ => (MP.pure h : PtS _ _ _ _ _ _ _ _) ρ H σ Ext.refl t
def mExpr (ma : EM) : SM := fun ds => M.tr (ma ds) ds fun _ => pure (.nx ds)
theorem sm_expr (he : PEm X W e ma) (hs : swapsWith e none pos.line X.env = pure false := by rfl) : PSm X W (.Expr e pos) (mExpr ma) :=
  PS.imp (ps_expr he hs) fun D σ H ⟨Z, ρ, S, ds, t, h⟩ => tE_tr t h fun d S1 ρ1 H1 v e1 t1 i q => (MP.pure q : PtS _ _ _ _ _ _ _ _) ρ1 H1 σ Ext.refl t1
def mRet (ma : EM) : SM := fun ds => M.tr (ma ds) ds fun d => pure (.rt d)
theorem sm_ret (he : PEm X W e ma) : PSm X W (.Return (some e) pos) (mRet ma) :=
  PS.imp (ps_ret he) fun D σ H ⟨Z, ρ, S, ds, t, h⟩ => tE_tr t h fun d S1 ρ1 H1 v e1 t1 i q => (MP.pure q : PtS _ _ _ _ _ _ _ _) ρ1 H1 v Ext.refl t1.ok i
def mRetN : SM := fun ds => pure (.rt .non)
theorem sm_retN : PSm X W (.Return none pos) mRetN := PS.imp ps_retN fun D σ H ⟨Z, ρ, S, ds, t, h⟩ => (MP.pure h : PtS _ _ _ _ _ _ _ _) ρ H .non Ext.refl t.ok .non
def mIfS (mt : TM) (m m2 : SM) : SM := fun ds => M.tr (mt ds) ds fun c => if c = true then m ds else m2 ds
theorem sm_if {c : Expr} {a b : List Stmt} (hc : PTm X W c mt) (ha : PSsm X W a m) (hb : PSsm X W b m2) : PSm X W (.If c a b pos) (mIfS mt m m2) :=
  PS.imp (ps_if hc ha hb) fun D σ H ⟨Z, ρ, S, ds, t, h⟩ => tT_tr t h fun d S1 ρ1 H1 e1 t1 q => by
    cases d with
    | true => rw [if_pos rfl] at q ⊢; exact ⟨Z, ρ1, S1, ds, t1, q⟩
    | false => rw [if_neg Bool.false_ne_true] at q ⊢; exact ⟨Z, ρ1, S1, ds, t1, q⟩
/-- a statement that is never reached -/
def mNever : SM := fun _ => stuck
theorem sm_never : PSm X W st mNever := PS.imp ps_never fun D σ H ⟨Z, ρ, S, ds, t, h⟩ => h.elim
theorem ssm_never : PSsm X W rest mNever := PSs.imp pss_never fun D σ H ⟨Z, ρ, S, ds, t, h⟩ => h.elim

/-! ### targets -/
/-- what a target does with a value: data, slots, the store -/
abbrev GM := D → En → M En
def tG (K : PySem.W.Frag) (W : Wsh K) (m : GM) : TG := fun v σ H Q => ∃ Z ρ S ds d, At K Z ρ S H σ ds ∧ Is K Z ρ H v d ∧ MP (m d ds S) (fun ds1 S1 => ∀ ρ' H' σ', Ext ρ H ρ' H' → At K Z ρ' S1 H' σ' ds1 → Q σ' H') (W.P Z ρ H σ ds)
def PGm (X : Cx) (W : Wsh X.K) (tg : Expr) (m : GM) : Prop := PG X tg (tG X.K W m)
theorem PG.imp {tg : Expr} {t t' : TG} (h : PG X tg t) (i : ∀ v σ H Q, t' v σ H Q → t v σ H Q) : PG X tg t' := ⟨fun pins s σ H v u Q I r q => h.run pins s σ H v u Q I r (i v σ H Q q)⟩
def mName (i : Nat) : GM := fun d ds => pure (put ds i (some d))
theorem gm_name {i : Nat} {x : Str} (hN : X.N.Nodup) (hi : X.N[i]? = some x) (hx : Loc X.env.scope x) (hf : X.fn x = true ∨ X.env.scope.names.lookup x = some .local := by first | exact .inl rfl | exact .inr rfl | assumption) : PGm X W (.Name x pos) (mName i) :=
  PG.imp (pg_name hN hi hx hf) fun v σ H Q ⟨Z, ρ, S, ds, d, t, i, h⟩ => (MP.pure h) ρ H _ Ext.refl ⟨t.ok, t.env.put _ i⟩
/-- names of a tuple -/
def setAll : List Nat → List D → En → En
  | i :: is, d :: r, ds => setAll is r (put ds i (some d))
  | _, _, ds => ds
def tGs (K : PySem.W.Frag) (is : List Nat) : TGs := fun vs σ H Q => ∃ Z ρ S ds xs, At K Z ρ S H σ ds ∧ IsAll K Z ρ H vs xs ∧ xs.length = is.length ∧ ∀ σ', At K Z ρ S H σ' (setAll is xs ds) → Q σ' H
def PGsm (X : Cx) (ts : List Expr) (is : List Nat) : Prop := PGs X ts (tGs X.K is)
theorem PGs.imp {ts : List Expr} {t t' : TGs} (h : PGs X ts t) (i : ∀ v σ H Q, t' v σ H Q → t v σ H Q) : PGs X ts t' := ⟨fun pins s σ H v u Q I r q => h.run pins s σ H v u Q I r (i v σ H Q q)⟩
theorem gsm_nil : PGsm X [] [] := PGs.imp pgs_nil fun vs σ H Q ⟨Z, ρ, S, ds, xs, t, i, l, h⟩ => by
  cases xs with
  | nil => cases i; exact ⟨rfl, h σ t⟩
  | cons a b => simp at l
theorem gsm_cons {i : Nat} {x : Str} {es : List Expr} {is : List Nat} (hN : X.N.Nodup) (hi : X.N[i]? = some x) (hx : Loc X.env.scope x) (h : PGsm X es is) (hf : X.fn x = true ∨ X.env.scope.names.lookup x = some .local := by first | exact .inl rfl | exact .inr rfl | assumption)
    (hs : (assignEach (.Name x pos :: es) X.env).map (·.2) = assign (.Name x pos) X.env :: (assignEach es X.env).map (·.2) := by rfl) : PGsm X (.Name x pos :: es) (i :: is) :=
  PGs.imp (pgs_cons (pg_name hN hi hx hf) h hs) fun vs σ H Q ⟨Z, ρ, S, ds, xs, t, ia, l, q⟩ => by
    cases ia with
    | nil => simp at l
    | cons iv r => exact ⟨_, _, rfl, Z, ρ, S, _, _, ⟨t.ok, t.env.put _ iv⟩, r, by simpa using l, fun σ' t' => q σ' t'⟩
def mTupG (is : List Nat) : GM := fun d ds => match d with
  | .tup xs => if xs.length = is.length then pure (setAll is xs ds) else stuck
  | _ => stuck
theorem gm_tup {es : List Expr} {k : Nat} {is : List Nat} (hc : X.calm = true) (h : PGsm X es is) (hn : (assignEach es X.env).length = is.length := by rfl) (hst : (assignEach es X.env).findIdx? (·.1) = none := by rfl) : PGm X W (.Tuple es k pos) (mTupG is) :=
  PG.imp (pg_tup hc h hn hst) fun v σ H Q ⟨Z, ρ, S, ds, d, t, ia, q⟩ => by
    cases ia with
    | @tup a vs xs hq r =>
      unfold mTupG at q
      simp only at q
      by_cases hl : xs.length = is.length
      · rw [if_pos hl] at q
        exact ⟨_, vs, rfl, hq, by rw [r.length]; exact hl, Z, ρ, S, ds, xs, t, r, hl, fun σ' t' => (MP.pure q) ρ H σ' Ext.refl t'⟩
      · rw [if_neg hl] at q; exact q.elim
    | _ => exact q.elim
/-- a store at a place of a list -/
def mSub (mo mi : EM) : GM := fun d ds => mo ds >>= fun o => mi ds >>= fun i => fun S => match o, i with
  | .cell k, .int j => match S[k]? with
    | some (.lst xs) => match ixN xs.length j with
      | some n => .ok ds (S.set k (.lst (xs.set n d)))
      | none => .no
    | _ => .no
  | _, _ => .no
theorem gm_sub {o i : Expr} {mo mi : EM} (ho : PEm X W o mo) (hi : PEm X W i mi)
    (ha : ∀ v, assign (.Subscript o i pos) X.env v = (do
      let ov ← holding [v] (eval o X.env)
      let iv ← holding [v, ov] (eval i X.env)
      standAt pos
      holding [v, ov, iv] (setItem ov iv v)
      release [v, ov, iv] []) := by intro _; rfl) : PGm X W (.Subscript o i pos) (mSub mo mi) :=
  PG.imp (pg_sub ho hi set_list ha) fun v σ H Q ⟨Z, ρ, S, ds, d, t, iv, h⟩ => by
    refine tE_bind t h fun d1 S1 ρ1 H1 v1 e1 t1 i1 q1 => ?_
    refine tE_bind t1 q1 fun d2 S2 ρ2 H2 v2 e2 t2 i2 q2 => ?_
    have i1' := i1.mono t1.ok e2
    have iv' := (iv.mono t.ok e1).mono t1.ok e2
    cases i1' with
    | cell hc =>
      rename_i a k
      cases i2 with
      | int j =>
        simp only at q2
        split at q2
        · rename_i xs e3
          split at q2
          · rename_i n e4
            obtain ⟨vs, h1, r⟩ := t2.ok.cellL hc e3
            obtain ⟨k3, e5⟩ := t2.ok.write hc ⟨_, h1, trivial⟩ (r.set iv' n)
            refine ⟨a, vs, j, n, rfl, rfl, h1, by rw [r.length]; exact e4, ?_⟩
            exact (show _ from q2) ρ2 _ σ ((e1.trans e2).trans e5) ⟨k3, t2.env.mono t2.ok e5⟩
          · exact q2.elim
        · exact q2.elim
      | _ => exact q2.elim
    | _ => exact q2.elim
def mAsg (ma : EM) (g : GM) : SM := fun ds => M.tr (ma ds) ds fun d => M.tr (g d ds) ds fun ds1 => pure (.nx ds1)
theorem asg_of {g : GM} {D : Ends} {σ : L2.St} {H : Hp} (h : tS X.K W (mAsg ma g) D σ H) : tAsg (tE X.K W ma) (tG X.K W g) D σ H := by
  obtain ⟨Z, ρ, S, ds, t, h⟩ := h
  refine tE_tr t h fun d S1 ρ1 H1 v e1 t1 i q => ⟨Z, ρ1, S1, ds, d, t1, i, (MP.tr t1 q).imp (fun ds1 S2 q2 => ?_) fun _ _ _ z => z⟩
  exact (MP.pure q2 : PtS _ _ _ _ _ _ _ _)
theorem sm_asg {tg : Expr} {g : GM} (he : PEm X W e ma) (hg : PGm X W tg g) (hs : swapsWithSole [tg] e pos.line X.env = pure false := by rfl) (hw : swappedStores [tg] e X.env = pure none := by rfl)
    (h1 : (assignEach [tg] X.env).map (·.2) = [assign tg X.env] := by rfl) : PSm X W (.Assign [tg] e pos) (mAsg ma g) :=
  PS.imp (ps_asg he hg hs hw h1) fun D σ H h => asg_of h
def mSet (i : Nat) (ma : EM) : SM := fun ds => M.tr (ma ds) ds fun d => pure (.nx (put ds i (some d)))
theorem set_of {i : Nat} {D : Ends} {σ : L2.St} {H : Hp} (h : tS X.K W (mSet i ma) D σ H) : tAsg (tE X.K W ma) (gName i) D σ H := by
  obtain ⟨Z, ρ, S, ds, t, h⟩ := h
  exact tE_tr t h fun d S1 ρ1 H1 v e1 t1 ii q => (MP.pure q : PtS _ _ _ _ _ _ _ _) ρ1 H1 _ Ext.refl ⟨t1.ok, t1.env.put i ii⟩
theorem sm_set {i : Nat} {x : Str} {pos' : Pos} (hN : X.N.Nodup) (hi : X.N[i]? = some x) (hx : Loc X.env.scope x) (he : PEm X W e ma) (hs : swapsWith e (some (.Name x pos')) pos.line X.env = pure false := by rfl) (hf : X.fn x = true ∨ X.env.scope.names.lookup x = some .local := by first | exact .inl rfl | exact .inr rfl | assumption) :
    PSm X W (.Assign [.Name x pos'] e pos) (mSet i ma) := PS.imp (ps_set hN hi hx he hs hf) fun D σ H h => set_of h
/-- a, b = x, y -/
def mPar (i j : Nat) (ms : AM) : SM := fun ds => M.tr (ms ds) ds fun xs => match xs with
  | [x, y] => pure (.nx (put (put ds i (some x)) j (some y)))
  | _ => stuck
theorem tA_tr {ms : AM} {σ : L2.St} {H : Hp} {ds : En} {Z ρ : List Addr} {S : Sto} {D : Ends} {k : List Pv.D → M Fl} (t : At X.K Z ρ S H σ ds) (h : MP (M.tr (ms ds) ds k S) (PtS X.K W Z ρ H D) No)
    {R : List V → Hp → Prop} (kk : ∀ d S1 ρ1 H1 v, Ext ρ H ρ1 H1 → At X.K Z ρ1 S1 H1 σ ds → IsAll X.K Z ρ1 H1 v d → MP (k d S1) (PtS X.K W Z ρ1 H1 D) No → R v H1) : tA X.K W ms σ H R :=
  ⟨Z, ρ, S, ds, t, (MP.tr t h).imp (fun d S1 q ρ1 H1 v e1 k1 i => kk d S1 ρ1 H1 v e1 (t.up e1 k1) i (q.imp (fun _ _ z => z.up e1) fun _ _ _ z => z)) fun _ _ _ z => z⟩
theorem sm_par {i j : Nat} {x y : Str} {a b : Expr} {ms : AM} {px py pt : Pos} {kt k2 pt2} (hc : X.calm = true) (hN : X.N.Nodup) (hi : X.N[i]? = some x) (hj : X.N[j]? = some y) (hij : i ≠ j)
    (hx : X.env.scope.names.lookup x = some .local) (hy : X.env.scope.names.lookup y = some .local) (ha : PAm X W [a, b] ms)
    (hw : swappedStores [.Tuple [.Name x px, .Name y py] kt pt] (.Tuple [a, b] k2 pt2) X.env = pure (some [x, y]))
    (hs : swapsWithSole [.Tuple [.Name x px, .Name y py] kt pt] (.Tuple [a, b] k2 pt2) pos.line X.env = pure false := by rfl) :
    PSm X W (.Assign [.Tuple [.Name x px, .Name y py] kt pt] (.Tuple [a, b] k2 pt2) pos) (mPar i j ms) :=
  PS.imp (ps_par hc hN hi hj hij hx hy ha hw hs) fun D σ H ⟨Z, ρ, S, ds, t, h⟩ => tA_tr t h fun d S1 ρ1 H1 v e1 t1 ii q => by
    cases ii with
    | nil => exact q.elim
    | cons i1 r =>
      cases r with
      | nil => exact q.elim
      | cons i2 r =>
        cases r with
        | nil => exact ⟨_, _, rfl, (MP.pure q : PtS _ _ _ _ _ _ _ _) ρ1 H1 _ Ext.refl ⟨t1.ok, (t1.env.put i i1).put j i2⟩⟩
        | cons _ _ => exact q.elim
/-- a, b, c = x, y, z -/
def mPar3 (i j l : Nat) (ms : AM) : SM := fun ds => M.tr (ms ds) ds fun xs => match xs with
  | [x, y, z] => pure (.nx (put (put (put ds i (some x)) j (some y)) l (some z)))
  | _ => stuck
theorem sm_par3 {i j l : Nat} {x y z : Str} {a b c : Expr} {ms : AM} {px py pz pt : Pos} {kt k2 pt2} (hc : X.calm = true) (hN : X.N.Nodup) (hi : X.N[i]? = some x) (hj : X.N[j]? = some y) (hl : X.N[l]? = some z) (hij : i ≠ j) (hil : i ≠ l) (hjl : j ≠ l)
    (hx : X.env.scope.names.lookup x = some .local) (hy : X.env.scope.names.lookup y = some .local) (hz : X.env.scope.names.lookup z = some .local) (ha : PAm X W [a, b, c] ms)
    (hw : swappedStores [.Tuple [.Name x px, .Name y py, .Name z pz] kt pt] (.Tuple [a, b, c] k2 pt2) X.env = pure (some [x, y, z]))
    (hs : swapsWithSole [.Tuple [.Name x px, .Name y py, .Name z pz] kt pt] (.Tuple [a, b, c] k2 pt2) pos.line X.env = pure false := by rfl) :
    PSm X W (.Assign [.Tuple [.Name x px, .Name y py, .Name z pz] kt pt] (.Tuple [a, b, c] k2 pt2) pos) (mPar3 i j l ms) :=
  PS.imp (ps_par3 hc hN hi hj hl hij hil hjl hx hy hz ha hw hs) fun D σ H ⟨Z, ρ, S, ds, t, h⟩ => tA_tr t h fun d S1 ρ1 H1 v e1 t1 ii q => by
    cases ii with
    | nil => exact q.elim
    | cons i1 r =>
      cases r with
      | nil => exact q.elim
      | cons i2 r =>
        cases r with
        | nil => exact q.elim
        | cons i3 r =>
          cases r with
          | nil => exact ⟨_, _, _, rfl, (MP.pure q : PtS _ _ _ _ _ _ _ _) ρ1 H1 _ Ext.refl ⟨t1.ok, ((t1.env.put i i1).put j i2).put l i3⟩⟩
          | cons _ _ => exact q.elim
end
end Pv
end

/-! Pv11: what is walked, for, while, comprehensions. -/
namespace Pv
open PySem PySem.Spec PyProof.Rows L2
/-! ### a list that is being made -/
section
variable {K : PySem.W.Frag} {Z ρ ρ' ρ1 : List Addr} {S S' : Sto} {H H' H1 : Hp} {v : V} {d : D} {vs ws : List V} {ds : List D} {p : Addr} {σ : L2.St} {en : En}
mutual
theorem Is.addZ (hp : H p = none) : ∀ {v : V} {d : D}, Is K Z ρ H v d → Is K (p :: Z) ρ H v d
  | _, _, .non => .non
  | _, _, .bl b => .bl b
  | _, _, .int i => .int i
  | _, _, .str x => .str x
  | _, _, .tup h r => .tup h (IsAll.addZ hp r)
  | _, _, .lst h r => .lst ⟨h.1, h.2.1, fun z => (List.mem_cons.mp z).elim (fun e => by rw [← e, h.1] at hp; cases hp) h.2.2⟩ (IsAll.addZ hp r)
  | _, _, .cell h => .cell h
  | _, _, .ty n => .ty n
  | _, _, .scr h r => .scr h (IsAll.addZ hp r)
  | _, _, .oth h r => .oth (h.imp fun b o h1 h2 h3 => ⟨h1, h2, fun z => (List.mem_cons.mp z).elim (fun e => by rw [← e, h1] at hp; cases hp) h3⟩) (IsAll.addZ hp r)
theorem IsAll.addZ (hp : H p = none) : ∀ {vs : List V} {ds : List D}, IsAll K Z ρ H vs ds → IsAll K (p :: Z) ρ H vs ds
  | _, _, .nil => .nil
  | _, _, .cons h r => .cons (Is.addZ hp h) (IsAll.addZ hp r)
end
mutual
theorem Is.delZ : ∀ {v : V} {d : D}, Is K (p :: Z) ρ H v d → Is K Z ρ H v d
  | _, _, .non => .non
  | _, _, .bl b => .bl b
  | _, _, .int i => .int i
  | _, _, .str x => .str x
  | _, _, .tup h r => .tup h (IsAll.delZ r)
  | _, _, .lst h r => .lst ⟨h.1, h.2.1, fun z => h.2.2 (List.mem_cons_of_mem _ z)⟩ (IsAll.delZ r)
  | _, _, .cell h => .cell h
  | _, _, .ty n => .ty n
  | _, _, .scr h r => .scr h (IsAll.delZ r)
  | _, _, .oth h r => .oth (h.imp fun b o h1 h2 h3 => ⟨h1, h2, fun z => h3 (List.mem_cons_of_mem _ z)⟩) (IsAll.delZ r)
theorem IsAll.delZ : ∀ {vs : List V} {ds : List D}, IsAll K (p :: Z) ρ H vs ds → IsAll K Z ρ H vs ds
  | _, _, .nil => .nil
  | _, _, .cons h r => .cons (Is.delZ h) (IsAll.delZ r)
end
mutual
theorem Is.zw (k : Ok K Z ρ S H) (hp : p ∈ Z) {u : HO} (hl : H p = some u) (zu : ZO u) {o : HO} : ∀ {v : V} {d : D}, Is K Z ρ H v d → Is K Z ρ (upd H p o) v d
  | _, _, .non => .non
  | _, _, .bl b => .bl b
  | _, _, .int i => .int i
  | _, _, .str x => .str x
  | _, _, .tup h r => .tup (by
      rcases h with (h | ⟨o', h⟩) | h
      · exact .inl (.inl (by rw [upd_ne (fun z => by rw [z, hl] at h; cases h; exact zu)]; exact h))
      · exact .inl (.inr ⟨o', by rw [upd_ne (fun z => by rw [z, hl] at h; cases h; exact zu)]; exact h⟩)
      · exact .inr h) (IsAll.zw k hp hl zu r)
  | _, _, .lst h r => .lst ⟨by rw [upd_ne (fun z => h.2.2 (by rw [z]; exact hp))]; exact h.1, h.2⟩ (IsAll.zw k hp hl zu r)
  | _, _, .cell h => .cell h
  | _, _, .ty n => .ty n
  | _, _, .scr h r => .scr (by
      rcases h with ⟨o', h, n⟩ | h
      · exact .inl ⟨o', by rw [upd_ne (fun z => by rw [z, hl] at h; cases h; exact zu)]; exact h, n⟩
      · exact .inr h) (IsAll.zw k hp hl zu r)
  | _, _, .oth h r => .oth (h.imp fun b o h1 h2 h3 => ⟨by rw [upd_ne (fun z => h3 (by rw [z]; exact hp))]; exact h1, h2, h3⟩) (IsAll.zw k hp hl zu r)
theorem IsAll.zw (k : Ok K Z ρ S H) (hp : p ∈ Z) {u : HO} (hl : H p = some u) (zu : ZO u) {o : HO} : ∀ {vs : List V} {ds : List D}, IsAll K Z ρ H vs ds → IsAll K Z ρ (upd H p o) vs ds
  | _, _, .nil => .nil
  | _, _, .cons h r => .cons (Is.zw k hp hl zu h) (IsAll.zw k hp hl zu r)
end
theorem Ok.zw (k : Ok K Z ρ S H) (hp : p ∈ Z) {u u' : HO} (hl : H p = some u) (zu : ZO u) (zu' : ZO u') : Ok K Z ρ S (upd H p u') where
  len := k.len
  nd := k.nd
  zd := k.zd
  zt := fun a h => by
    by_cases e : a = p
    · exact ⟨u', by rw [e]; exact upd_same, zu'.co⟩
    · rw [upd_ne e]; exact k.zt a h
  cell := fun i a q h1 h2 => by
    obtain ⟨us, e1, r⟩ := k.cell i a q h1 h2
    exact ⟨us, e1.at (upd_ne (fun z => k.zd a (List.mem_of_getElem? h1) (by rw [z]; exact hp))), r.zw k hp hl zu⟩
theorem EnvIs.zw (n : EnvIs K Z ρ H σ en) (k : Ok K Z ρ S H) (hp : p ∈ Z) {u : HO} (hl : H p = some u) (zu : ZO u) {o : HO} : EnvIs K Z ρ (upd H p o) σ en := ⟨n.len, fun i d h => let ⟨v, a, b⟩ := n.get i d h; ⟨v, a, b.zw k hp hl zu⟩⟩
theorem EnvIs.addZ (n : EnvIs K Z ρ H σ en) (hp : H p = none) : EnvIs K (p :: Z) ρ H σ en := ⟨n.len, fun i d h => let ⟨v, a, b⟩ := n.get i d h; ⟨v, a, b.addZ hp⟩⟩
/-- from H1 on, where p was none -/
theorem Ext.at (e : Ext ρ1 H1 ρ H) (hp : H1 p = none) {o : HO} : Ext ρ1 H1 ρ (upd H p o) where
  more := e.more
  keep := fun b u n q => by rw [upd_ne (ne_of_none q hp)]; exact e.keep b u n q
  there := fun b u q => by rw [upd_ne (ne_of_none q hp)]; exact e.there b u q
  frz := fun b o u q => by rw [upd_ne (ne_of_none q hp)]; exact e.frz b o u q
mutual
theorem Is.monoZ {Y : List Addr} (k : Ok K Y ρ S H) (e : Ext ρ H ρ' H') : ∀ {v : V} {d : D}, Is K Z ρ H v d → Is K Z ρ' H' v d
  | _, _, .non => .non
  | _, _, .bl b => .bl b
  | _, _, .int i => .int i
  | _, _, .str x => .str x
  | _, _, .tup h r => .tup (keepT k e h) (IsAll.monoZ k e r)
  | _, _, .lst h r => .lst (keepL e h) (IsAll.monoZ k e r)
  | _, _, .cell h => .cell (e.get h)
  | _, _, .ty n => .ty n
  | _, _, .scr h r => .scr (keepS e h) (IsAll.monoZ k e r)
  | _, _, .oth h r => .oth (keepO e h) (IsAll.monoZ k e r)
theorem IsAll.monoZ {Y : List Addr} (k : Ok K Y ρ S H) (e : Ext ρ H ρ' H') : ∀ {vs : List V} {ds : List D}, IsAll K Z ρ H vs ds → IsAll K Z ρ' H' vs ds
  | _, _, .nil => .nil
  | _, _, .cons h r => .cons (Is.monoZ k e h) (IsAll.monoZ k e r)
end
theorem Ok.addZ' (k : Ok K Z ρ S H) (hp : H p = none) {u : HO} (zu : ZO u) : Ok K (p :: Z) ρ S (upd H p u) where
  len := k.len
  nd := k.nd
  zd := fun a h z => (List.mem_cons.mp z).elim (fun e => k.nf hp (by rw [← e]; exact h)) (k.zd a h)
  zt := fun a h => (List.mem_cons.mp h).elim (fun e => ⟨u, by rw [e]; exact upd_same, zu.co⟩) fun h => by
    obtain ⟨vs, q, z⟩ := k.zt a h
    exact ⟨vs, by rw [upd_ne (ne_of_none q hp)]; exact q, z⟩
  cell := fun i a q h1 h2 => by
    obtain ⟨us, e1, r⟩ := k.cell i a q h1 h2
    obtain ⟨_, e2, _⟩ := e1.ho
    exact ⟨us, e1.at (upd_ne (ne_of_none e2 hp)), (r.addZ hp).monoZ k (ext_new hp)⟩
theorem Ok.addZ (k : Ok K Z ρ S H) (hp : H p = none) : Ok K (p :: Z) ρ S (upd H p (.lst [])) := k.addZ' hp trivial
theorem EnvIs.monoZ {Y : List Addr} (n : EnvIs K Z ρ H σ en) (k : Ok K Y ρ S H) (e : Ext ρ H ρ' H') : EnvIs K Z ρ' H' σ en := ⟨n.len, fun i d h => let ⟨v, a, b⟩ := n.get i d h; ⟨v, a, b.monoZ k e⟩⟩
/-- the list is done -/
theorem Ok.delZ (k : Ok K (p :: Z) ρ S H) : Ok K Z ρ S H where
  len := k.len
  nd := k.nd
  zd := fun a h z => k.zd a h (List.mem_cons_of_mem _ z)
  zt := fun a h => k.zt a (List.mem_cons_of_mem _ h)
  cell := fun i a q h1 h2 => by
    obtain ⟨us, e1, r⟩ := k.cell i a q h1 h2
    exact ⟨us, e1, r.delZ⟩
mutual
theorem Is.toC {u : HO} (hl : H p = some u) (zu : ZO u) : ∀ {v : V} {d : D}, Is K (p :: Z) ρ H v d → Is K Z (ρ ++ [p]) H v d
  | _, _, .non => .non
  | _, _, .bl b => .bl b
  | _, _, .int i => .int i
  | _, _, .str x => .str x
  | _, _, .tup h r => .tup h (IsAll.toC hl zu r)
  | _, _, .lst h r => .lst ⟨h.1, fun z => (List.mem_append.mp z).elim h.2.1 fun z => h.2.2 (by rw [List.mem_singleton.mp z]; exact List.mem_cons_self), fun z => h.2.2 (List.mem_cons_of_mem _ z)⟩ (IsAll.toC hl zu r)
  | _, _, .cell h => .cell (by rw [List.getElem?_append_left (List.getElem?_eq_some_iff.mp h).1]; exact h)
  | _, _, .ty n => .ty n
  | _, _, .scr h r => .scr (by
      rcases h with ⟨o', h, n⟩ | h
      · exact .inl ⟨o', h, fun z => (List.mem_append.mp z).elim n fun z => by rw [List.mem_singleton.mp z, hl] at h; cases h; exact zu⟩
      · exact .inr h) (IsAll.toC hl zu r)
  | _, _, .oth h r => .oth (h.imp fun b o h1 h2 h3 => ⟨h1, fun z => (List.mem_append.mp z).elim h2 fun z => h3 (by rw [List.mem_singleton.mp z]; exact List.mem_cons_self), fun z => h3 (List.mem_cons_of_mem _ z)⟩) (IsAll.toC hl zu r)
theorem IsAll.toC {u : HO} (hl : H p = some u) (zu : ZO u) : ∀ {vs : List V} {ds : List D}, IsAll K (p :: Z) ρ H vs ds → IsAll K Z (ρ ++ [p]) H vs ds
  | _, _, .nil => .nil
  | _, _, .cons h r => .cons (Is.toC hl zu h) (IsAll.toC hl zu r)
end
theorem Ok.toC' (k : Ok K (p :: Z) ρ S H) (hz : p ∉ Z) {u : HO} (hl : H p = some u) (zu : ZO u) {c0 : Cl} (hc : HoIs H p vs c0) (r : IsAll K (p :: Z) ρ H vs c0.parts) : Ok K Z (ρ ++ [p]) (S ++ [c0]) H where
  len := by rw [List.length_append, List.length_append, k.len]; rfl
  nd := by
    rw [List.nodup_append]
    exact ⟨k.nd, by simp, fun a ha b hb z => k.zd a ha (by rw [z, List.mem_singleton.mp hb]; exact List.mem_cons_self)⟩
  zd := fun a h z => (List.mem_append.mp h).elim (fun h => k.zd a h (List.mem_cons_of_mem _ z)) fun h => hz (by rw [← List.mem_singleton.mp h]; exact z)
  zt := fun a h => k.zt a (List.mem_cons_of_mem _ h)
  cell := fun i a c h1 h2 => by
    by_cases hi : i < ρ.length
    · rw [List.getElem?_append_left hi] at h1
      rw [List.getElem?_append_left (by rw [← k.len]; exact hi)] at h2
      obtain ⟨ws, e1, r1⟩ := k.cell i a c h1 h2
      exact ⟨ws, e1, r1.toC hl zu⟩
    · have hi2 : i = ρ.length := by
        have := (List.getElem?_eq_some_iff.mp h1).1
        rw [List.length_append] at this
        simp at this; omega
      subst hi2
      have a1 : p = a := by simpa using h1
      have a2 : c0 = c := by rw [k.len] at h2; simpa using h2
      subst a1 a2
      exact ⟨vs, hc, r.toC hl zu⟩
theorem Ok.toC (k : Ok K (p :: Z) ρ S H) (hz : p ∉ Z) (hl : H p = some (.lst vs)) (r : IsAll K (p :: Z) ρ H vs ds) : Ok K Z (ρ ++ [p]) (S ++ [.lst ds]) H := k.toC' hz hl trivial (c0 := .lst ds) hl r
end
/-! ### what is walked -/
structure Src (K : PySem.W.Frag) (J : It) (items : List D) (G : List Addr → List Addr → Hp → Prop) : Prop where
  go : ∀ (i : Nat) Z ρ S H, i < items.length → G Z ρ H → Ok K Z ρ S H → J.go i H
  stop : ∀ Z ρ S H, G Z ρ H → Ok K Z ρ S H → J.stop items.length H
  yld : ∀ (i : Nat) (d : D) Z ρ S H x H', items[i]? = some d → G Z ρ H → Ok K Z ρ S H → J.yld i H x H' → Ext ρ H ρ H' ∧ Ok K Z ρ S H' ∧ Is K Z ρ H' x d
  keep : ∀ Z Y ρ S H ρ' H', G Z ρ H → Ok K Y ρ S H → Ext ρ H ρ' H' → G Z ρ' H'
  zw : ∀ Z ρ S H p vs o, G Z ρ H → Ok K Z ρ S H → p ∈ Z → H p = some (.lst vs) → G Z ρ (upd H p o)
  addZ : ∀ Z ρ H p, G Z ρ H → H p = none → G (p :: Z) ρ H
abbrev IM := En → M (List D)
def tI (K : PySem.W.Frag) (W : Wsh K) (m : IM) : TI := fun σ H R => ∃ Z ρ S ds, At K Z ρ S H σ ds ∧
  MP (m ds S) (fun items S1 => ∀ ρ' H' J G, Ext ρ H ρ' H' → Ok K Z ρ' S1 H' → Src K J items G → G Z ρ' H' → R J H') (W.P Z ρ H σ ds)
def PIm (X : Cx) (W : Wsh X.K) (tg iter : Expr) (m : IM) : Prop := PI X tg iter (tI X.K W m)
section
variable {K : PySem.W.Frag} {Z ρ ρ' : List Addr} {S S' : Sto} {H H' : Hp} {v : V} {d : D} {vs : List V} {ds : List D} {p : Addr}
theorem src_lst (a : Addr) (items : List D) : Src K (Itl K a) items fun Z ρ H => Is K Z ρ H (.ref a) (.lst items) where
  go := fun i Z ρ S H hi g k => by
    cases g with
    | lst h r =>
      obtain ⟨v, e, _⟩ := r.get (List.getElem?_eq_getElem hi)
      exact ⟨_, v, h.seq, e⟩
  stop := fun Z ρ S H g k => by
    cases g with
    | lst h r => exact ⟨_, h.seq, by rw [r.length]; exact Nat.le_refl _⟩
  yld := fun i d Z ρ S H x H' e g k y => by
    cases g with
    | lst h r =>
      obtain ⟨rfl, q⟩ := y
      obtain ⟨v, e2, iv⟩ := r.get e
      have e3 := q _ h.seq
      rw [e2] at e3; cases e3
      exact ⟨Ext.refl, k, iv⟩
  keep := fun Z Y ρ S H ρ' H' g k e => g.monoZ k e
  zw := fun Z ρ S H p vs o g k hp hl => g.zw k hp hl trivial
  addZ := fun Z ρ H p g hp => g.addZ hp
theorem src_scr (a : Addr) (items : List D) : Src K (Itl K a) items fun Z ρ H => Is K Z ρ H (.ref a) (.scr items) where
  go := fun i Z ρ S H hi g k => by
    cases g with
    | scr h r =>
      obtain ⟨v, e, _⟩ := r.get (List.getElem?_eq_getElem hi)
      exact ⟨_, v, h.seq, e⟩
  stop := fun Z ρ S H g k => by
    cases g with
    | scr h r => exact ⟨_, h.seq, by rw [r.length]; exact Nat.le_refl _⟩
  yld := fun i d Z ρ S H x H' e g k y => by
    cases g with
    | scr h r =>
      obtain ⟨rfl, q⟩ := y
      obtain ⟨v, e2, iv⟩ := r.get e
      have e3 := q _ h.seq
      rw [e2] at e3; cases e3
      exact ⟨Ext.refl, k, iv⟩
  keep := fun Z Y ρ S H ρ' H' g k e => g.monoZ k e
  zw := fun Z ρ S H p vs o g k hp hl => g.zw k hp hl trivial
  addZ := fun Z ρ H p g hp => g.addZ hp
theorem src_tup (a : Addr) (items : List D) : Src K (Itt K a) items fun Z ρ H => Is K Z ρ H (.ref a) (.tup items) where
  go := fun i Z ρ S H hi g k => by
    cases g with
    | tup h r =>
      obtain ⟨v, e, _⟩ := r.get (List.getElem?_eq_getElem hi)
      exact ⟨_, v, h, e⟩
  stop := fun Z ρ S H g k => by
    cases g with
    | tup h r => exact ⟨_, h, by rw [r.length]; exact Nat.le_refl _⟩
  yld := fun i d Z ρ S H x H' e g k y => by
    cases g with
    | tup h r =>
      obtain ⟨rfl, q⟩ := y
      obtain ⟨v, e2, iv⟩ := r.get e
      have e3 := q _ h
      rw [e2] at e3; cases e3
      exact ⟨Ext.refl, k, iv⟩
  keep := fun Z Y ρ S H ρ' H' g k e => g.monoZ k e
  zw := fun Z ρ S H p vs o g k hp hl => g.zw k hp hl trivial
  addZ := fun Z ρ H p g hp => g.addZ hp
/-- the signs of a text -/
def signs (x : Str) : List D := x.cps.toList.map fun c => .str ⟨#[c]⟩
theorem src_str (x : Str) : Src K (Its x) (signs x) fun _ _ _ => True where
  go := fun i Z ρ S H hi _ k => by
    show i < x.cps.size
    simpa [signs] using hi
  stop := fun Z ρ S H _ k => by
    show x.cps.size ≤ (signs x).length
    simp [signs]
  yld := fun i d Z ρ S H v H' e _ k y => by
    obtain ⟨rfl, c, e2, rfl⟩ := y
    simp only [signs, List.getElem?_map, Array.getElem?_toList, e2] at e
    cases e
    exact ⟨Ext.refl, k, .str _⟩
  keep := fun _ _ _ _ _ _ _ _ _ _ => trivial
  zw := fun _ _ _ _ _ _ _ _ _ _ _ => trivial
  addZ := fun _ _ _ _ _ _ => trivial
def rngD (lo : Int) (n : Nat) : List D := (List.range n).map fun (i : Nat) => .int (lo + (i : Int))
theorem src_rng (lo : Int) (n : Nat) : Src K (Itr lo n) (rngD lo n) fun _ _ _ => True where
  go := fun i Z ρ S H hi _ k => by
    show i < n
    simpa [rngD] using hi
  stop := fun Z ρ S H _ k => by
    show n ≤ (rngD lo n).length
    simp [rngD]
  yld := fun i d Z ρ S H v H' e _ k y => by
    obtain ⟨rfl, rfl⟩ := y
    simp only [rngD, List.getElem?_map, Option.map_eq_some_iff] at e
    obtain ⟨j, e1, rfl⟩ := e
    have : j = i := by
      have := List.getElem?_eq_some_iff.mp e1
      obtain ⟨h1, h2⟩ := this
      rw [List.getElem_range] at h2
      exact h2.symm
    subst this
    exact ⟨Ext.refl, k, .int _⟩
  keep := fun _ _ _ _ _ _ _ _ _ _ => trivial
  zw := fun _ _ _ _ _ _ _ _ _ _ _ => trivial
  addZ := fun _ _ _ _ _ _ => trivial
end
section
variable {X : Cx} {W : Wsh X.K} {e e2 tg iter : Expr} {ma : EM} {ms : AM} {pos p tpos : Pos} {m : IM}
theorem PI.or {w1 w2 : TI} (h1 : PI X tg iter w1) (h2 : PI X tg iter w2) : PI X tg iter (fun σ H R => w1 σ H R ∨ w2 σ H R) := ⟨fun pins s σ H R I q => q.elim (h1.run pins s σ H R I) (h2.run pins s σ H R I)⟩
theorem PI.imp {w1 w2 : TI} (h1 : PI X tg iter w1) (h : ∀ σ H R, w2 σ H R → w1 σ H R) : PI X tg iter w2 := ⟨fun pins s σ H R I q => h1.run pins s σ H R I (h σ H R q)⟩
/-- lists, tuples, texts, the script -/
def mIter (ma : EM) : IM := fun ds => ma ds >>= fun x => match x with
  | .lst xs => pure xs
  | .scr xs => pure xs
  | .tup xs => pure xs
  | .str z => pure (signs z)
  | _ => stuck
theorem im_any (h : PEm X W e ma) : PIm X W tg e (mIter ma) :=
  PI.imp (PI.or (pi_list h) (PI.or (pi_tup h) (pi_str h))) fun σ H R ⟨Z, ρ, S, ds, t, h⟩ => by
    have hb := MP.bind h
    cases q : ma ds S with
    | no => rw [q] at hb; exact hb.elim
    | exc c v S1 =>
      rw [q] at hb
      exact .inl ⟨Z, ρ, S, ds, t, by rw [q]; exact hb⟩
    | ok d S1 =>
      rw [q] at hb
      cases d with
      | lst xs =>
        refine .inl ⟨Z, ρ, S, ds, t, ?_⟩
        rw [q]
        intro ρ' H' v e1 k1 i
        cases i with
        | @lst a vs _ hl r => exact ⟨a, rfl, ⟨vs, hl.seq⟩, (MP.pure hb) ρ' H' _ _ e1 k1 (src_lst a xs) (.lst hl r)⟩
      | scr xs =>
        refine .inl ⟨Z, ρ, S, ds, t, ?_⟩
        rw [q]
        intro ρ' H' v e1 k1 i
        cases i with
        | @scr a vs _ hl r => exact ⟨a, rfl, ⟨vs, hl.seq⟩, (MP.pure hb) ρ' H' _ _ e1 k1 (src_scr a xs) (.scr hl r)⟩
      | tup xs =>
        refine .inr (.inl ⟨Z, ρ, S, ds, t, ?_⟩)
        rw [q]
        intro ρ' H' v e1 k1 i
        cases i with
        | @tup a vs _ hl r => exact ⟨a, rfl, ⟨vs, hl⟩, (MP.pure hb) ρ' H' _ _ e1 k1 (src_tup a xs) (.tup hl r)⟩
      | str x =>
        refine .inr (.inr ⟨Z, ρ, S, ds, t, ?_⟩)
        rw [q]
        intro ρ' H' v e1 k1 i
        cases i with
        | str => exact ⟨_, rfl, (MP.pure hb) ρ' H' _ _ e1 k1 (src_str _) trivial⟩
      | non => exact hb.elim
      | bl _ => exact hb.elim
      | int _ => exact hb.elim
      | cell _ => exact hb.elim
      | ty _ => exact hb.elim
      | oth _ _ => exact hb.elim
/-- range -/
def mRng1 (ms : AM) : IM := fun ds => ms ds >>= fun xs => match xs with
  | [.int j] => if j ≤ 1000000 ∧ -1000000 ≤ j then pure (rngD 0 j.toNat) else stuck
  | _ => stuck
def mRng2 (ms : AM) : IM := fun ds => ms ds >>= fun xs => match xs with
  | [.int i, .int j] => if -1000000000000 ≤ i ∧ i ≤ 1000000000000 ∧ -1000000000000 ≤ j ∧ j ≤ 1000000000000 then pure (rngD i (j - i).toNat) else stuck
  | _ => stuck
theorem im_rng1 {a : Expr} (hg : Gl X "range") (hm : X.mg "range" = none) (ha : PAm X W [a] ms) (hs : starEach [a] X.env = [(false, eval a X.env)] := by rfl) : PIm X W tg (.Call (.Name "range" p) [a] [] pos) (mRng1 ms) :=
  PI.imp (pi_range1 hg hm ha hs) fun σ H R ⟨Z, ρ, S, ds, t, h⟩ => tA_bind t h fun xs S1 ρ1 H1 vs e1 t1 i q => by
    split at q
    · rename_i j
      obtain ⟨v, rfl, iv⟩ := is1 i
      cases iv
      by_cases hj : j ≤ 1000000 ∧ -1000000 ≤ j
      · rw [if_pos hj] at q
        exact ⟨j, rfl, by omega, by omega, (MP.pure q) ρ1 H1 _ _ e1 t1.ok (src_rng 0 j.toNat) trivial⟩
      · rw [if_neg hj] at q; exact q.elim
    · exact q.elim
theorem im_rng2 {a b : Expr} (hg : Gl X "range") (hm : X.mg "range" = none) (ha : PAm X W [a, b] ms) (hs : starEach [a, b] X.env = [(false, eval a X.env), (false, eval b X.env)] := by rfl) (hs2 : starEach [b] X.env = [(false, eval b X.env)] := by rfl) :
    PIm X W tg (.Call (.Name "range" p) [a, b] [] pos) (mRng2 ms) :=
  PI.imp (pi_range2 hg hm ha hs hs2) fun σ H R ⟨Z, ρ, S, ds, t, h⟩ => tA_bind t h fun xs S1 ρ1 H1 vs e1 t1 i q => by
    split at q
    · rename_i j l
      obtain ⟨v, w, rfl, iv, iw⟩ := is2 i
      cases iv; cases iw
      by_cases hj : -1000000000000 ≤ j ∧ j ≤ 1000000000000 ∧ -1000000000000 ≤ l ∧ l ≤ 1000000000000
      · rw [if_pos hj] at q
        exact ⟨j, l, rfl, ⟨by omega, by omega, by omega, by omega⟩, (MP.pure q) ρ1 H1 _ _ e1 t1.ok (src_rng j (l - j).toNat) trivial⟩
      · rw [if_neg hj] at q; exact q.elim
    · exact q.elim
end
/-! ### for -/
/-- behind a turn -/
def afterTurn (next : En → M Fl) : Fl → M Fl
  | .nx ds => next ds
  | .ct ds => next ds
  | .bk ds => pure (.nx ds)
  | .rt d => pure (.rt d)
  | .ex c v ds => pure (.ex c v ds)
def loopM (g : GM) (body : SM) : List D → SM
  | [], ds => pure (.nx ds)
  | x :: xs, ds => M.tr (g x ds) ds fun ds1 => body ds1 >>= afterTurn (loopM g body xs)
def mFor (m : IM) (g : GM) (body : SM) : SM := fun ds => M.tr (m ds) ds fun items => loopM g body items ds
def tForIn (J : It) (g : TG) (tb : TS) (D : Ends) (σ : L2.St) (H1 : Hp) : Prop := ∃ W : Nat → Nat → L2.St → Hp → Prop, (∃ m, W 0 m σ H1) ∧ ∀ i m σ H, W i m σ H →
  (J.stop i H ∧ D.nx σ H) ∨ (J.go i H ∧ ∃ N : L2.St → Hp → Prop, (∀ σ' H', N σ' H' → ∃ m', m' < m ∧ W (i + 1) m' σ' H') ∧ ∀ x H', J.yld i H x H' → g x σ H' fun σ2 H2 => tb { D with nx := N, ct := N, bk := D.nx } σ2 H2)
theorem for_core {K : PySem.W.Frag} {W : Wsh K} {g : GM} {mb : SM} {D : Ends} {σ : L2.St} {Z ρ1 : List Addr} {S1 : Sto} {H1 : Hp} {ds : En} {items : List Pv.D} {J : It} {G : List Addr → List Addr → Hp → Prop}
    (t1 : At K Z ρ1 S1 H1 σ ds) (sr : Src K J items G) (g1 : G Z ρ1 H1) (q : MP (loopM g mb items ds S1) (PtS K W Z ρ1 H1 D) No) : tForIn J (tG K W g) (tS K W mb) D σ H1 := by
  refine ⟨fun i n σ' H' => n = items.length - i ∧ i ≤ items.length ∧ ∃ ρi Si dsi, At K Z ρi Si H' σ' dsi ∧ G Z ρi H' ∧ MP (loopM g mb (items.drop i) dsi Si) (PtS K W Z ρi H' D) No,
    ⟨items.length, by simp, Nat.zero_le _, ρ1, S1, ds, t1, g1, by rw [List.drop_zero]; exact q⟩, ?_⟩
  rintro i n σ' H' ⟨rfl, hi, ρi, Si, dsi, ti, gi, q⟩
  by_cases hlt : i < items.length
  · rw [List.drop_eq_getElem_cons hlt] at q
    refine .inr ⟨sr.go i Z ρi Si H' hlt gi ti.ok, fun σ2 H2 => ∃ ρ2 S2 ds2, At K Z ρ2 S2 H2 σ2 ds2 ∧ G Z ρ2 H2 ∧ MP (loopM g mb (items.drop (i + 1)) ds2 S2) (PtS K W Z ρ2 H2 D) No,
      fun σ2 H2 ⟨ρ2, S2, ds2, t2, g2, q2⟩ => ⟨items.length - (i + 1), by omega, rfl, hlt, ρ2, S2, ds2, t2, g2, q2⟩, fun x H2 y => ?_⟩
    obtain ⟨e2, k2, ix⟩ := sr.yld i _ Z ρi Si H' x H2 (List.getElem?_eq_getElem hlt) gi ti.ok y
    have t2 := ti.up e2 k2
    have g2 := sr.keep Z Z ρi Si H' ρi H2 gi ti.ok e2
    have q2 := q.imp (P' := PtS K W Z ρi H2 D) (E' := No) (fun _ _ z => z.up e2) fun _ _ _ z => z
    refine ⟨Z, ρi, Si, dsi, _, t2, ix, (MP.tr t2 q2).imp (fun ds3 S3 q3 ρ3 H3 σ3 e3 t3 => ?_) fun _ _ _ z => z⟩
    refine ⟨Z, ρ3, S3, ds3, t3, (MP.bind q3).imp (fun fl S4 q4 => ?_) fun _ _ _ z => z⟩
    have g3 := sr.keep Z Z ρi Si H2 ρ3 H3 g2 t2.ok e3
    cases fl with
    | nx ds4 => exact fun ρ4 H4 σ4 e4 t4 => ⟨ρ4, S4, ds4, t4, sr.keep Z Z ρ3 S3 H3 ρ4 H4 g3 t3.ok e4, (show MP (loopM g mb (items.drop (i + 1)) ds4 S4) _ _ from q4).imp (fun _ _ z => z.up (e3.trans e4)) fun _ _ _ z => z⟩
    | ct ds4 => exact fun ρ4 H4 σ4 e4 t4 => ⟨ρ4, S4, ds4, t4, sr.keep Z Z ρ3 S3 H3 ρ4 H4 g3 t3.ok e4, (show MP (loopM g mb (items.drop (i + 1)) ds4 S4) _ _ from q4).imp (fun _ _ z => z.up (e3.trans e4)) fun _ _ _ z => z⟩
    | bk ds4 => exact fun ρ4 H4 σ4 e4 t4 => (MP.pure q4 : PtS _ _ _ _ _ _ _ _) ρ4 H4 σ4 (e3.trans e4) t4
    | rt d => exact fun ρ4 H4 v e4 k4 i4 => (MP.pure q4 : PtS _ _ _ _ _ _ _ _) ρ4 H4 v (e3.trans e4) k4 i4
    | ex c v ds4 => exact fun ρ4 H4 σ4 S5 e4 t4 => (MP.pure q4 : PtS _ _ _ _ _ _ _ _) ρ4 H4 σ4 S5 (e3.trans e4) t4
  · have e : i = items.length := by omega
    subst e
    rw [List.drop_length] at q
    exact .inl ⟨sr.stop Z ρi Si H' gi ti.ok, (MP.pure q : PtS _ _ _ _ _ _ _ _) ρi H' σ' Ext.refl ti⟩
section
variable {X : Cx} {W : Wsh X.K} {tg iter : Expr} {m : IM} {g : GM} {mb : SM} {body : List Stmt} {pos : Pos}
theorem sm_for (hp : PassesOwn (model X.prog X.w) X.A X.env X.xe) (hc : X.calm = true) (hi : PIm X W tg iter m) (hg : PGm X W tg g) (hb : PSsm X W body mb)
    (hs : ∀ x, foldedSetIterable iter X.env x = pure x := by intro _; rfl) : PSm X W (.For tg iter body [] pos) (mFor m g mb) :=
  PS.imp (ps_for hp hc hi hg hb hs) fun D σ H ⟨Z, ρ, S, ds, t, h⟩ =>
    ⟨Z, ρ, S, ds, t, (MP.tr t h).imp (fun items S1 q ρ1 H1 J G e1 k1 sr g1 => for_core (t.up e1 k1) sr g1 (q.imp (fun _ _ z => z.up e1) fun _ _ _ z => z)) fun _ _ _ z => z⟩
end
end Pv

/-! Pv12: list comprehensions, while. -/
noncomputable section
namespace Pv
open PySem PySem.Spec PyProof.Rows L2
/-! ### the block's own slots -/
def wipeD (ds : En) : List Nat → En
  | [] => ds
  | v :: vs => (wipeD ds vs).set v none
theorem wipeD_length (ds : En) : ∀ vs : List Nat, (wipeD ds vs).length = ds.length
  | [] => rfl
  | v :: vs => by unfold wipeD; rw [List.length_set, wipeD_length ds vs]
theorem wipeD_some {ds : En} {i : Nat} {x : D} : ∀ {vs : List Nat}, (wipeD ds vs)[i]? = some (some x) → ds[i]? = some (some x) ∧ i ∉ vs
  | [], h => ⟨h, by simp⟩
  | v :: vs, h => by
    unfold wipeD at h
    by_cases hi : v = i
    · subst hi
      by_cases hv : v < (wipeD ds vs).length
      · rw [List.getElem?_set_self hv] at h; cases h
      · rw [List.getElem?_eq_none (by simpa using hv)] at h; cases h
    · rw [List.getElem?_set_ne hi] at h
      obtain ⟨h1, h2⟩ := wipeD_some h
      exact ⟨h1, by simp only [List.mem_cons, not_or]; exact ⟨fun e => hi e.symm, h2⟩⟩
theorem EnvIs.wipe {K : PySem.W.Frag} {Z ρ : List Addr} {H : Hp} {σ : L2.St} {ds : En} (n : EnvIs K Z ρ H σ ds) (vs : List Nat) : EnvIs K Z ρ H (wipe σ vs) (wipeD ds vs) :=
  ⟨by rw [wipeD_length, wipe_length]; exact n.len, fun i d h => by
    obtain ⟨h1, h2⟩ := wipeD_some h
    obtain ⟨v, a, b⟩ := n.get i d h1
    exact ⟨v, by rw [wipe_out h2]; exact a, b⟩⟩
theorem wipe_get (σ : L2.St) (j : Nat) : ∀ vs : List Nat, (wipe σ vs)[j]? = if j ∈ vs then σ[j]?.map (fun _ => none) else σ[j]?
  | [] => by simp [L2.wipe]
  | v :: vs => by
    unfold L2.wipe
    by_cases hv : v = j
    · subst hv
      rw [if_pos List.mem_cons_self]
      by_cases hl : v < σ.length
      · rw [List.getElem?_set_self (by rw [wipe_length]; exact hl), List.getElem?_eq_getElem hl]; rfl
      · rw [List.getElem?_eq_none (by rw [List.length_set, wipe_length]; omega), List.getElem?_eq_none (by omega)]; rfl
    · rw [List.getElem?_set_ne hv, wipe_get σ j vs]
      by_cases hm : j ∈ vs
      · rw [if_pos hm, if_pos (List.mem_cons_of_mem _ hm)]
      · rw [if_neg hm, if_neg (fun z => (List.mem_cons.mp z).elim (fun e => hv e.symm) hm)]
theorem wipe_in {σ : L2.St} {x : Option V} {i : Nat} {vs : List Nat} (h : i ∈ vs) : wipe (σ.set i x) vs = wipe σ vs := by
  apply List.ext_getElem?
  intro j
  rw [wipe_get, wipe_get]
  by_cases hm : j ∈ vs
  · rw [if_pos hm, if_pos hm]
    by_cases e : i = j
    · subst e
      by_cases hl : i < σ.length
      · rw [List.getElem?_set_self hl, List.getElem?_eq_getElem hl]; rfl
      · rw [List.getElem?_eq_none (by rw [List.length_set]; omega), List.getElem?_eq_none (by omega)]
    · rw [List.getElem?_set_ne e]
  · rw [if_neg hm, if_neg hm, List.getElem?_set_ne (fun z : i = j => hm (by rw [← z]; exact h))]
theorem wipe_twice (σ : L2.St) (vs : List Nat) : wipe (wipe σ vs) vs = wipe σ vs := by
  apply List.ext_getElem?
  intro j
  rw [wipe_get, wipe_get]
  by_cases hm : j ∈ vs
  · rw [if_pos hm, if_pos hm, Option.map_map]; rfl
  · rw [if_neg hm, if_neg hm]
/-! ### the target of a clause -/
def tGw (K : PySem.W.Frag) (vs : List Nat) (m : D → En → Option En) : TG := fun v σ H Q => ∃ Z ρ S ds ds1 d, At K Z ρ S H σ ds ∧ Is K Z ρ H v d ∧ m d ds = some ds1 ∧ ∀ σ', wipe σ' vs = wipe σ vs → At K Z ρ S H σ' ds1 → Q σ' H
abbrev BM := D → En → Option En
def PGw (X : Cx) (tg : Expr) (vs : List Nat) (m : BM) : Prop := PG X tg (tGw X.K vs m)
def bName (i : Nat) : BM := fun d ds => some (put ds i (some d))
section
variable {X : Cx} {pos : Pos}
theorem gw_name {vs : List Nat} {i : Nat} {x : Str} (hv : i ∈ vs) (hN : X.N.Nodup) (hi : X.N[i]? = some x) (hx : Loc X.env.scope x) (hf : X.fn x = true ∨ X.env.scope.names.lookup x = some .local := by first | exact .inl rfl | exact .inr rfl | assumption) : PGw X (.Name x pos) vs (bName i) :=
  PG.imp (pg_name hN hi hx hf) fun v σ H Q ⟨Z, ρ, S, ds, ds1, d, t, i, e, h⟩ => by
    cases e
    exact h _ (wipe_in hv) ⟨t.ok, t.env.put _ i⟩
def tGsw (K : PySem.W.Frag) (vs is : List Nat) : TGs := fun us σ H Q => ∃ Z ρ S ds xs, At K Z ρ S H σ ds ∧ IsAll K Z ρ H us xs ∧ xs.length = is.length ∧ ∀ σ', wipe σ' vs = wipe σ vs → At K Z ρ S H σ' (setAll is xs ds) → Q σ' H
def PGsw (X : Cx) (ts : List Expr) (vs is : List Nat) : Prop := PGs X ts (tGsw X.K vs is)
theorem gsw_nil {vs : List Nat} : PGsw X [] vs [] := PGs.imp pgs_nil fun us σ H Q ⟨Z, ρ, S, ds, xs, t, i, l, h⟩ => by
  cases xs with
  | nil => cases i; exact ⟨rfl, h σ rfl t⟩
  | cons a b => simp at l
theorem gsw_cons {vs : List Nat} {i : Nat} {x : Str} {es : List Expr} {is : List Nat} (hv : i ∈ vs) (hN : X.N.Nodup) (hi : X.N[i]? = some x) (hx : Loc X.env.scope x) (h : PGsw X es vs is) (hf : X.fn x = true ∨ X.env.scope.names.lookup x = some .local := by first | exact .inl rfl | exact .inr rfl | assumption)
    (hs : (assignEach (.Name x pos :: es) X.env).map (·.2) = assign (.Name x pos) X.env :: (assignEach es X.env).map (·.2) := by rfl) : PGsw X (.Name x pos :: es) vs (i :: is) :=
  PGs.imp (pgs_cons (pg_name hN hi hx hf) h hs) fun us σ H Q ⟨Z, ρ, S, ds, xs, t, ia, l, q⟩ => by
    cases ia with
    | nil => simp at l
    | cons iv r => exact ⟨_, _, rfl, Z, ρ, S, _, _, ⟨t.ok, t.env.put _ iv⟩, r, by simpa using l, fun σ' w t' => q σ' (w.trans (wipe_in hv)) t'⟩
def bTup (is : List Nat) : BM := fun d ds => match d with
  | .tup xs => if xs.length = is.length then some (setAll is xs ds) else none
  | _ => none
theorem gw_tup {vs : List Nat} {es : List Expr} {k : Nat} {is : List Nat} (hc : X.calm = true) (h : PGsw X es vs is) (hn : (assignEach es X.env).length = is.length := by rfl) (hst : (assignEach es X.env).findIdx? (·.1) = none := by rfl) : PGw X (.Tuple es k pos) vs (bTup is) :=
  PG.imp (pg_tup hc h hn hst) fun v σ H Q ⟨Z, ρ, S, ds, ds1, d, t, ia, e, q⟩ => by
    cases ia with
    | @tup a us xs hq r =>
      unfold bTup at e
      obtain ⟨hl, rfl⟩ := of_if e
      exact ⟨_, us, rfl, hq, by rw [r.length]; exact hl, Z, ρ, S, ds, xs, t, r, hl, fun σ' w t' => q σ' w t'⟩
    | _ => cases e
end
/-! ### the comprehension -/
/-- what lets no exception out -/
def M.cl {α : Type} (m : M α) : M α := fun S => match m S with
  | .ok a S' => .ok a S'
  | _ => .no
theorem MP.cl {α : Type} {m : M α} {S : Sto} {P : α → Sto → Prop} {E E' : Str → D → Sto → Prop} (h : MP (M.cl m S) P E) : MP (m S) P E' := by
  unfold M.cl at h
  cases e : m S with
  | ok a S1 => rw [e] at h; exact h
  | exc c v S1 => rw [e] at h; exact h.elim
  | no => rw [e] at h; exact h.elim
def compM (g : BM) (mt : TM) (me : EM) (ds : En) : List D → M (List D)
  | [] => pure []
  | x :: xs => M.of (g x ds) >>= fun ds1 => M.cl (mt ds1) >>= fun b => if b = true then M.cl (me ds1) >>= fun y => compM g mt me ds xs >>= fun ys => pure (y :: ys) else compM g mt me ds xs
def mComp (m : IM) (g : BM) (mt : TM) (me : EM) (vs : List Nat) : EM := fun ds => m ds >>= fun items => if items.length ≤ 1000000 then compM g mt me (wipeD ds vs) items >>= fun ys => pure (.lst ys) else stuck
/-- .. as a list that is to change -/
def mCompC (m : IM) (g : BM) (mt : TM) (me : EM) (vs : List Nat) : EM := fun ds => m ds >>= fun items => if items.length ≤ 1000000 then compM g mt me (wipeD ds vs) items >>= fun ys => M.lift (newCell ys) else stuck
def mYes : TM := fun _ => pure true
def PTsm (X : Cx) (W : Wsh X.K) (ifs : List Expr) (m : TM) : Prop := PTs X ifs (tT X.K W m)
theorem tsm_nil {X : Cx} {W : Wsh X.K} : PTsm X W [] mYes := ⟨fun pins s σ H Q I ⟨Z, ρ, S, ds, t, h⟩ => pts_nil.run pins s σ H Q I ((MP.pure h : PtB _ _ _ _ _ _ _) ρ H Ext.refl t.ok)⟩
theorem tsm_one {X : Cx} {W : Wsh X.K} {c : Expr} {m : TM} (h : PTm X W c m) : PTsm X W [c] m := pts_one h
def tLcIn (J : It) (g : TG) (tt : TT) (te : TE) (vs : List Nat) (σ : L2.St) (H1 : Hp) (Q : VK) : Prop := ∀ D, H1 D = none → ∃ W : Nat → Nat → Hp → Prop, (∃ m, W 0 m (upd H1 D (.lst []))) ∧ ∀ i m H, W i m H →
  (J.stop i H ∧ Q (.ref D) H) ∨ (J.go i H ∧ ∃ Nx : Hp → Prop, (∀ H', Nx H' → ∃ m', m' < m ∧ W (i + 1) m' H') ∧ ∀ x H', J.yld i H x H' → g x (wipe σ vs) H' fun σ2 H2 => wipe σ2 vs = wipe σ vs ∧ tt σ2 H2 fun b H3 =>
    if b = true then te σ2 H3 fun y H4 => ∃ acc, H4 D = some (.lst acc) ∧ acc.length < sizeLine ∧ Nx (upd H4 D (.lst (acc ++ [y]))) else Nx H3)
abbrev FinOk (K : PySem.W.Frag) (Q : VK) (fin : List D → M D) : Prop := ∀ (ys : List D) (Z ρ ρ1 : List Addr) (S : Sto) (H H1 : Hp) (p : Addr) (acc : List V) (E : Str → D → Sto → Prop), H1 p = none → p ∉ Z → Ext ρ1 H1 ρ H → Ok K (p :: Z) ρ S H → H p = some (.lst acc) → acc.length ≤ 1000000 → IsAll K (p :: Z) ρ H acc ys → MP (fin ys S) (Pt K Z ρ1 H1 Q) E → Q (.ref p) H
theorem comp_core {K : PySem.W.Frag} {g : BM} {mt : TM} {me : EM} {vs : List Nat} {σ : L2.St} {Q : VK} {fin : List D → M D} (hfin : FinOk K Q fin) {Z ρ1 : List Addr} {S1 : Sto} {H1 : Hp} {ds : En} {items : List D} {J : It} {G : List Addr → List Addr → Hp → Prop} {E : Str → D → Sto → Prop}
    (t1 : At K Z ρ1 S1 H1 σ ds) (sr : Src K J items G) (g1 : G Z ρ1 H1) (hz : items.length ≤ 1000000) (q : MP (compM g mt me (wipeD ds vs) items S1) (fun ys S' => MP (fin ys S') (Pt K Z ρ1 H1 Q) (fun _ _ _ => True)) E) :
    tLcIn J (tGw K vs g) (tT K (W0 K) mt) (tE K (W0 K) me) vs σ H1 Q := by
  intro D hD
  have hDZ : D ∉ Z := t1.ok.nz hD
  refine ⟨fun i n H' => n = items.length - i ∧ i ≤ items.length ∧ ∃ ρi Si acc ya, Ext ρ1 H1 ρi H' ∧ At K (D :: Z) ρi Si H' (wipe σ vs) (wipeD ds vs) ∧ G (D :: Z) ρi H' ∧ H' D = some (.lst acc) ∧ acc.length ≤ i ∧ IsAll K (D :: Z) ρi H' acc ya ∧
    MP (compM g mt me (wipeD ds vs) (items.drop i) Si) (fun ys S' => MP (fin (ya ++ ys) S') (Pt K Z ρ1 H1 Q) (fun _ _ _ => True)) (fun _ _ _ => True),
    ⟨items.length, by simp, Nat.zero_le _, ρ1, S1, [], [], Ext.refl.at hD, ⟨t1.ok.addZ hD, ((t1.env.addZ hD).monoZ t1.ok (ext_new hD)).wipe vs⟩, ?_, upd_same, Nat.zero_le _, .nil, ?_⟩, ?_⟩
  · exact sr.keep (D :: Z) Z ρ1 S1 H1 ρ1 _ (sr.addZ Z ρ1 H1 D g1 hD) t1.ok (ext_new hD)
  · rw [List.drop_zero]
    exact q.imp (fun ys S' z => by rw [List.nil_append]; exact z) fun _ _ _ _ => trivial
  rintro i n H5 ⟨rfl, hi, ρi, Si, acc, ya, e5, t5, g5, h5, l5, a5, q5⟩
  by_cases hlt : i < items.length
  · rw [List.drop_eq_getElem_cons hlt] at q5
    refine .inr ⟨sr.go i (D :: Z) ρi Si H5 hlt g5 t5.ok, fun H' => ∃ ρ' S' acc ya, Ext ρ1 H1 ρ' H' ∧ At K (D :: Z) ρ' S' H' (wipe σ vs) (wipeD ds vs) ∧ G (D :: Z) ρ' H' ∧ H' D = some (.lst acc) ∧ acc.length ≤ i + 1 ∧ IsAll K (D :: Z) ρ' H' acc ya ∧
      MP (compM g mt me (wipeD ds vs) (items.drop (i + 1)) S') (fun ys S' => MP (fin (ya ++ ys) S') (Pt K Z ρ1 H1 Q) (fun _ _ _ => True)) (fun _ _ _ => True),
      fun H' z => ⟨items.length - (i + 1), by omega, rfl, hlt, z⟩, fun x H6 y => ?_⟩
    obtain ⟨e6, k6, ix⟩ := sr.yld i _ (D :: Z) ρi Si H5 x H6 (List.getElem?_eq_getElem hlt) g5 t5.ok y
    have t6 := t5.up e6 k6
    have g6 := sr.keep (D :: Z) (D :: Z) ρi Si H5 ρi H6 g5 t5.ok e6
    obtain ⟨ds1, e7, q7⟩ := MP.of (MP.bind q5)
    refine ⟨D :: Z, ρi, Si, _, ds1, _, t6, ix, e7, fun σ7 w7 t7 => ⟨w7.trans (by rw [wipe_twice]), ?_⟩⟩
    refine ⟨D :: Z, ρi, Si, ds1, t7, (MP.cl (MP.bind q7)).imp (fun b S8 q8 ρ8 H8 e8 k8 => ?_) fun _ _ _ z => z⟩
    have DD : ∀ {ρ' : List Addr} {H' : Hp}, Ext ρi H5 ρ' H' → H' D = some (.lst acc) := fun e => e.keep D _ (fun z => t5.ok.zd D z List.mem_cons_self) h5
    cases b with
    | false =>
      rw [if_neg Bool.false_ne_true] at q8
      show ∃ ρ' S' acc ya, _
      exact ⟨ρ8, S8, acc, ya, e5.trans (e6.trans e8), ⟨k8, t6.env.mono t6.ok e8⟩, sr.keep (D :: Z) (D :: Z) ρi Si H6 ρ8 H8 g6 k6 e8, DD (e6.trans e8), by omega, (a5.mono t5.ok e6).mono t6.ok e8, q8⟩
    | true =>
      rw [if_pos rfl] at q8
      show tE _ _ _ _ _ _
      refine ⟨D :: Z, ρ8, S8, ds1, t7.up e8 k8, (MP.cl (MP.bind q8)).imp (fun y S9 q9 ρ9 H9 v9 e9 k9 i9 => ?_) fun _ _ _ z => z⟩
      have t8 := t6.up e8 k8
      have h9 := DD ((e6.trans e8).trans e9)
      refine ⟨acc, h9, by rw [sizeLine_eq]; omega, ρ9, S9, acc ++ [v9], ya ++ [y], ((e5.trans (e6.trans e8)).trans e9).at hD, ⟨k9.zw List.mem_cons_self h9 trivial trivial, (t8.env.mono t8.ok e9).zw k9 List.mem_cons_self h9 trivial⟩, ?_, upd_same, by rw [List.length_append]; simp; omega, ?_, ?_⟩
      · exact sr.zw (D :: Z) ρ9 S9 H9 D acc _ (sr.keep (D :: Z) (D :: Z) ρ8 S8 H8 ρ9 H9 (sr.keep (D :: Z) (D :: Z) ρi Si H6 ρ8 H8 g6 k6 e8) k8 e9) k9 List.mem_cons_self h9
      · exact ((((a5.mono t5.ok e6).mono t6.ok e8).mono t8.ok e9).append (.cons i9 .nil)).zw k9 List.mem_cons_self h9 trivial
      · refine (MP.bind q9).imp (fun ys S10 z => ?_) fun _ _ _ z => z
        rw [List.append_assoc]
        exact (MP.pure z : _)
  · have e : i = items.length := by omega
    subst e
    rw [List.drop_length] at q5
    have q6 := (MP.pure q5 : MP (fin (ya ++ []) Si) _ _)
    rw [List.append_nil] at q6
    exact .inl ⟨sr.stop (D :: Z) ρi Si H5 g5 t5.ok, hfin ya Z ρi ρ1 Si H5 H1 D acc _ hD hDZ e5 t5.ok h5 (by omega) a5 q6⟩
theorem comp_of {K : PySem.W.Frag} {W : Wsh K} {m : IM} {g : BM} {mt : TM} {me : EM} {vs : List Nat} {σ : L2.St} {H : Hp} {Q : VK} {fin : List D → M D}
    (hfin : FinOk K Q fin)
    (h : tE K W (fun ds => m ds >>= fun items => if items.length ≤ 1000000 then compM g mt me (wipeD ds vs) items >>= fin else stuck) σ H Q) :
    tLc (tI K W m) (tGw K vs g) (tT K (W0 K) mt) (tE K (W0 K) me) vs σ H Q := by
  obtain ⟨Z, ρ, S, ds, t, h⟩ := h
  refine ⟨Z, ρ, S, ds, t, (MP.bind h).imp (fun items S1 q ρ1 H1 J G e1 k1 sr g1 => ?_) fun _ _ _ z => z⟩
  by_cases hz : items.length ≤ 1000000
  · rw [if_pos hz] at q
    exact comp_core hfin (t.up e1 k1) sr g1 hz ((MP.bind q).imp (fun ys S' z => z.imp (fun _ _ w => w.up e1) fun _ _ _ _ => trivial) fun _ _ _ z => z)
  · rw [if_neg hz] at q; exact q.elim
theorem fin_lst {K : PySem.W.Frag} {Q : VK} : ∀ (ys : List D) (Z ρ ρ1 : List Addr) (S : Sto) (H H1 : Hp) (p : Addr) (acc : List V) (E : Str → D → Sto → Prop), H1 p = none → p ∉ Z → Ext ρ1 H1 ρ H → Ok K (p :: Z) ρ S H → H p = some (.lst acc) → acc.length ≤ 1000000 → IsAll K (p :: Z) ρ H acc ys →
    MP ((pure (.lst ys) : M D) S) (Pt K Z ρ1 H1 Q) E → Q (.ref p) H := fun ys Z ρ ρ1 S H H1 p acc E h1 hz e k hl hn r q =>
  (MP.pure q : Pt _ _ _ _ _ _ _) ρ H _ e k.delZ (.lst ⟨hl, fun z => k.zd p z List.mem_cons_self, hz⟩ r.delZ)
theorem fin_cell {K : PySem.W.Frag} {Q : VK} : ∀ (ys : List D) (Z ρ ρ1 : List Addr) (S : Sto) (H H1 : Hp) (p : Addr) (acc : List V) (E : Str → D → Sto → Prop), H1 p = none → p ∉ Z → Ext ρ1 H1 ρ H → Ok K (p :: Z) ρ S H → H p = some (.lst acc) → acc.length ≤ 1000000 → IsAll K (p :: Z) ρ H acc ys →
    MP (M.lift (newCell ys) S) (Pt K Z ρ1 H1 Q) E → Q (.ref p) H := fun ys Z ρ ρ1 S H H1 p acc E h1 hz e k hl hn r q => by
  obtain ⟨d, S2, e2, q2⟩ := MP.lift q
  obtain ⟨_, e3⟩ := of_if e2
  cases e3
  have e4 : Ext ρ1 H1 (ρ ++ [p]) H := ⟨by
    obtain ⟨m, a, b⟩ := e.more
    exact ⟨m ++ [p], by rw [a, List.append_assoc], fun x hx => (List.mem_append.mp hx).elim (b x) fun hx => by rw [List.mem_singleton.mp hx]; exact h1⟩, e.keep, e.there, e.frz⟩
  exact q2 _ H _ e4 (k.toC hz hl r) (.cell (by rw [← k.len]; simp))
section
variable {X : Cx} {W : Wsh X.K} {elt tg iter : Expr} {ifs : List Expr} {scope : Scope} {own : List (Str × Nat)} {pos : Pos} {m : IM} {g : BM} {mt : TM} {me : EM}
/-- what the parts of a block must show -/
structure Blk (X : Cx) (elt tg : Expr) (ifs : List Expr) (scope : Scope) (own : List (Str × Nat)) (g : BM) (mt : TM) (me : EM) : Prop where
  ok : BlkOk X.N X.env.scope scope own
  tg : ∀ (s : Shared) (H : Hp) (C : Addr) (cl : List (Str × Addr)) (fp : List Addr), PGw (X.blk s H scope (compEnvC scope cl C X.env) fp) tg (own.map (·.2)) g
  ifs : ∀ (s : Shared) (H : Hp) (C : Addr) (cl : List (Str × Addr)) (fp : List Addr), PTsm (X.blk s H scope (compEnvC scope cl C X.env) fp) (W0 X.K) ifs mt
  elt : ∀ (s : Shared) (H : Hp) (C : Addr) (cl : List (Str × Addr)) (fp : List Addr), PEm (X.blk s H scope (compEnvC scope cl C X.env) fp) (W0 X.K) elt me
theorem em_comp (hc : X.calm = true) (hN : X.N.Nodup) (hi : PIm X W tg iter m) (b : Blk X elt tg ifs scope own g mt me) (hs : ∀ x, foldedSetIterable iter X.env x = pure x := by intro _; rfl) :
    PEm X W (.ListComp elt [⟨tg, iter, ifs, 0⟩] scope pos) (mComp m g mt me (own.map (·.2))) :=
  PE.imp (pe_lc (g := tGw X.K (own.map fun x : Str × Nat => x.2) g) (tt := tT X.K (W0 X.K) mt) (te := tE X.K (W0 X.K) me) hc hN hi b.ok (fun s H C cl fp => b.tg s H C cl fp) (fun s H C cl fp => b.ifs s H C cl fp) (fun s H C cl fp => b.elt s H C cl fp) hs) fun σ H Q h => comp_of fin_lst h
theorem em_compC (hc : X.calm = true) (hN : X.N.Nodup) (hi : PIm X W tg iter m) (b : Blk X elt tg ifs scope own g mt me) (hs : ∀ x, foldedSetIterable iter X.env x = pure x := by intro _; rfl) :
    PEm X W (.ListComp elt [⟨tg, iter, ifs, 0⟩] scope pos) (mCompC m g mt me (own.map (·.2))) :=
  PE.imp (pe_lc (g := tGw X.K (own.map fun x : Str × Nat => x.2) g) (tt := tT X.K (W0 X.K) mt) (te := tE X.K (W0 X.K) me) hc hN hi b.ok (fun s H C cl fp => b.tg s H C cl fp) (fun s H C cl fp => b.ifs s H C cl fp) (fun s H C cl fp => b.elt s H C cl fp) hs) fun σ H Q h => comp_of fin_cell h
theorem tAsg_name {te : TE} {ma : EM} {i : Nat} (himp : ∀ σ H Q, tE X.K W ma σ H Q → te σ H Q) {D : Ends} {σ : L2.St} {H : Hp} (h : tS X.K W (mSet i ma) D σ H) : tAsg te (gName i) D σ H :=
  himp σ H _ (set_of h)
theorem sm_comp {i : Nat} {y : Str} {py spos : Pos} (hc : X.calm = true) (hN : X.N.Nodup) (hy : X.N[i]? = some y) (hyl : X.env.scope.names.lookup y = some .local)
    (hi : PIm X W tg iter m) (b : Blk X elt tg ifs scope own g mt me) (hsw : swapsWith (.ListComp elt [⟨tg, iter, ifs, 0⟩] scope pos) (some (.Name y py)) spos.line X.env = pure true) (hs : ∀ x, foldedSetIterable iter X.env x = pure x := by intro _; rfl) :
    PSm X W (.Assign [.Name y py] (.ListComp elt [⟨tg, iter, ifs, 0⟩] scope pos) spos) (mSet i (mComp m g mt me (own.map (·.2)))) :=
  PS.imp (ps_setLc (g := tGw X.K (own.map fun x : Str × Nat => x.2) g) (tt := tT X.K (W0 X.K) mt) (te := tE X.K (W0 X.K) me) hc hN hy hyl hsw hi b.ok (fun s H C cl fp => b.tg s H C cl fp) (fun s H C cl fp => b.ifs s H C cl fp) (fun s H C cl fp => b.elt s H C cl fp) hs) fun D σ H h => tAsg_name (W := W) (ma := mComp m g mt me (own.map fun x : Str × Nat => x.2)) (fun σ H Q h => comp_of fin_lst h) h
theorem sm_compC {i : Nat} {y : Str} {py spos : Pos} (hc : X.calm = true) (hN : X.N.Nodup) (hy : X.N[i]? = some y) (hyl : X.env.scope.names.lookup y = some .local)
    (hi : PIm X W tg iter m) (b : Blk X elt tg ifs scope own g mt me) (hsw : swapsWith (.ListComp elt [⟨tg, iter, ifs, 0⟩] scope pos) (some (.Name y py)) spos.line X.env = pure true) (hs : ∀ x, foldedSetIterable iter X.env x = pure x := by intro _; rfl) :
    PSm X W (.Assign [.Name y py] (.ListComp elt [⟨tg, iter, ifs, 0⟩] scope pos) spos) (mSet i (mCompC m g mt me (own.map (·.2)))) :=
  PS.imp (ps_setLc (g := tGw X.K (own.map fun x : Str × Nat => x.2) g) (tt := tT X.K (W0 X.K) mt) (te := tE X.K (W0 X.K) me) hc hN hy hyl hsw hi b.ok (fun s H C cl fp => b.tg s H C cl fp) (fun s H C cl fp => b.ifs s H C cl fp) (fun s H C cl fp => b.elt s H C cl fp) hs) fun D σ H h => tAsg_name (W := W) (ma := mCompC m g mt me (own.map fun x : Str × Nat => x.2)) (fun σ H Q h => comp_of fin_cell h) h
end
/-! ### while -/
def whileM (c : TM) (body : SM) : Nat → SM
  | 0 => fun _ => stuck
  | n + 1 => fun ds => M.tr (c ds) ds fun b => if b = true then body ds >>= afterTurn (whileM c body n) else pure (.nx ds)
/-- fuel: any number that is enough -/
def mWhile (fuel : En → Sto → Nat) (c : TM) (body : SM) : SM := fun ds S => whileM c body (fuel ds S) ds S
theorem sm_while {X : Cx} {W : Wsh X.K} {c : Expr} {body : List Stmt} {pos : Pos} {mt : TM} {mb : SM} (fuel : En → Sto → Nat) (hp : PassesOwn (model X.prog X.w) X.A X.env X.xe) (hc : PTm X W c mt) (hb : PSsm X W body mb) : PSm X W (.While c body [] pos) (mWhile fuel mt mb) :=
  PS.imp (ps_while hp hc hb) fun D σ H ⟨Z, ρ, S, ds, t, h⟩ => by
    refine ⟨fun n σ' H' => ∃ ρi Si dsi, At X.K Z ρi Si H' σ' dsi ∧ MP (whileM mt mb n dsi Si) (PtS X.K W Z ρi H' D) No, ⟨fuel ds S, ρ, S, ds, t, h⟩, ?_⟩
    rintro n σ1 H1 ⟨ρ1, S1, ds1, t1, q1⟩
    cases n with
    | zero => exact q1.elim
    | succ n =>
      refine ⟨Z, ρ1, S1, ds1, t1, (MP.tr t1 q1).imp (fun b S2 q2 ρ2 H2 e2 k2 => ?_) fun _ _ _ z => z⟩
      have t2 := t1.up e2 k2
      cases b with
      | false =>
        rw [if_neg Bool.false_ne_true] at q2
        exact (MP.pure q2 : PtS _ _ _ _ _ _ _ _) ρ2 H2 σ1 e2 t2
      | true =>
        rw [if_pos rfl] at q2
        show ∃ N : L2.St → Hp → Prop, _ ∧ _
        refine ⟨fun σ' H' => ∃ ρi Si dsi, At X.K Z ρi Si H' σ' dsi ∧ MP (whileM mt mb n dsi Si) (PtS X.K W Z ρi H' D) No, fun σ' H' z => ⟨n, by omega, z⟩, Z, ρ2, S2, ds1, t2, (MP.bind q2).imp (fun fl S4 q4 => ?_) fun _ _ _ z => z⟩
        cases fl with
        | nx ds4 => exact fun ρ4 H4 σ4 e4 t4 => ⟨ρ4, S4, ds4, t4, (show MP (whileM mt mb n ds4 S4) _ _ from q4).imp (fun _ _ z => z.up (e2.trans e4)) fun _ _ _ z => z⟩
        | ct ds4 => exact fun ρ4 H4 σ4 e4 t4 => ⟨ρ4, S4, ds4, t4, (show MP (whileM mt mb n ds4 S4) _ _ from q4).imp (fun _ _ z => z.up (e2.trans e4)) fun _ _ _ z => z⟩
        | bk ds4 => exact fun ρ4 H4 σ4 e4 t4 => (MP.pure q4 : PtS _ _ _ _ _ _ _ _) ρ4 H4 σ4 (e2.trans e4) t4
        | rt d => exact fun ρ4 H4 v e4 k4 i4 => (MP.pure q4 : PtS _ _ _ _ _ _ _ _) ρ4 H4 v (e2.trans e4) k4 i4
        | ex c v ds4 => exact fun ρ4 H4 σ4 S5 e4 t4 => (MP.pure q4 : PtS _ _ _ _ _ _ _ _) ρ4 H4 σ4 S5 (e2.trans e4) t4
end Pv
end

/-! Pv13: what a def does, as a function on data; its calls. -/
namespace Pv
open PySem PySem.Spec PyProof.Rows L2
/-- a def on data -/
abbrev DM := List D → M D
/-- the run of a def, as told by m -/
def RunsM (P : Program) (w : World) (K : PySem.W.Frag) (mg : Str → Option Value) (base : Heap) (k : Nat) (f : Addr) (fd : FuncData) (ps : List Str) (m : DM) : Prop :=
  ∀ (A : Around) (outer : List Env) (s : Shared) (H : Hp) (args : Args) (us : List Value) (vs : List V) (Q : VK) (Z ρ : List Addr) (S : Sto) (ds : List D),
    Room k A → A.guards = some [] → Env0 P w K mg base A outer s H → BindsTo s fd args (ps.zip us) → Vals vs us → vs.length = ps.length → Ok K Z ρ S H → IsAll K Z ρ H vs ds → MP (m ds S) (Pt K Z ρ H Q) No →
    codeAny (model P w) A (.call (.ref f) args) (CR CX0 outer P w H s Q E0) s
/-- the slots at the entry -/
def stD (n : Nat) (ds : List D) : En := ds.map some ++ List.replicate (n - ds.length) none
/-- the body's end as the def's -/
def toRet : Fl → M D
  | .rt d => pure d
  | .nx _ => pure .non
  | _ => stuck
def mFnK (n : Nat) (m : SM) : DM := fun ds => m (stD n ds) >>= toRet
/-! ### the store behind a def: what it made is forgotten, what it gives stands alone -/
mutual
/-- no cell from the n-th on -/
def clD (n : Nat) : D → Bool
  | .cell k => decide (k < n)
  | .tup xs => clL n xs
  | .lst xs => clL n xs
  | .scr xs => clL n xs
  | .oth _ xs => clL n xs
  | _ => true
def clL (n : Nat) : List D → Bool
  | [] => true
  | x :: xs => clD n x && clL n xs
end
mutual
/-- new cells become what nobody changes: g tells it -/
def fzD (n : Nat) (g : Nat → Option D) : D → Option D
  | .cell k => if k < n then some (.cell k) else g k
  | .tup xs => (fzL n g xs).map .tup
  | .lst xs => (fzL n g xs).map .lst
  | .scr xs => (fzL n g xs).map .scr
  | .oth t xs => (fzL n g xs).map (.oth t)
  | .non => some .non
  | .bl b => some (.bl b)
  | .int i => some (.int i)
  | .str x => some (.str x)
  | .ty x => some (.ty x)
def fzL (n : Nat) (g : Nat → Option D) : List D → Option (List D)
  | [] => some []
  | x :: xs => match fzD n g x, fzL n g xs with
    | some y, some ys => some (y :: ys)
    | _, _ => none
end
def fzG (n : Nat) (S : Sto) : Nat → Nat → Option D
  | 0, _ => none
  | i + 1, k => match S[k]? with
    | some (.lst xs) => (fzL n (fzG n S i) xs).map .lst
    | some (.oth t xs) => (fzL n (fzG n S i) xs).map (.oth t)
    | _ => none
def clS (n : Nat) (S : Sto) : Bool := S.all fun c => clL n c.parts
def cutM (n : Nat) (d : D) (S : Sto) : R D := if n ≤ S.length ∧ clS n (S.take n) = true then match fzD n (fzG n S 4) d with
    | some e => .ok e (S.take n)
    | none => .no
  else .no
def mFnT (n : Nat) (m : SM) : DM := fun ds S => match mFnK n m ds S with
  | .ok d S' => cutM S.length d S'
  | .exc c v S' => .exc c v S'
  | .no => .no
section
variable {K : PySem.W.Frag} {Z ρ ρ' : List Addr} {S S' : Sto} {H H' : Hp} {v : V} {d e : D} {vs : List V} {ds es : List D} {n : Nat}
theorem take_cell {k : Nat} {a : Addr} (h : ρ[k]? = some a) (hk : k < n) : (ρ.take n)[k]? = some a := by rw [List.getElem?_take_of_lt hk]; exact h
theorem LstAt.cut {a : Addr} (h : LstAt Z ρ H a vs) : LstAt Z (ρ.take n) H a vs := ⟨h.1, fun z => h.2.1 (List.mem_of_mem_take z), h.2.2⟩
mutual
theorem Is.cut : ∀ {v : V} {d : D}, Is K Z ρ H v d → clD n d = true → Is K Z (ρ.take n) H v d
  | _, _, .non, _ => .non
  | _, _, .bl b, _ => .bl b
  | _, _, .int i, _ => .int i
  | _, _, .str x, _ => .str x
  | _, _, .tup h r, c => .tup h (IsAll.cut r c)
  | _, _, .lst h r, c => .lst h.cut (IsAll.cut r c)
  | _, _, .cell h, c => .cell (take_cell h (of_decide_eq_true c))
  | _, _, .ty x, _ => .ty x
  | _, _, .scr h r, c => .scr (h.elim (fun ⟨o, h, m⟩ => .inl ⟨o, h, fun z => m (List.mem_of_mem_take z)⟩) .inr) (IsAll.cut r c)
  | _, _, .oth h r, c => .oth (h.imp fun b o h1 h2 h3 => ⟨h1, fun z => h2 (List.mem_of_mem_take z), h3⟩) (IsAll.cut r c)
theorem IsAll.cut : ∀ {vs : List V} {ds : List D}, IsAll K Z ρ H vs ds → clL n ds = true → IsAll K Z (ρ.take n) H vs ds
  | _, _, .nil, _ => .nil
  | _, _, .cons h r, c => by
    have c' : (clD n _ && clL n _) = true := c
    rw [Bool.and_eq_true] at c'
    exact .cons (Is.cut h c'.1) (IsAll.cut r c'.2)
end
/-- what is told of new cells -/
def Tells (K : PySem.W.Frag) (Z ρ : List Addr) (H : Hp) (n : Nat) (g : Nat → Option D) : Prop := ∀ (k : Nat) (a : Addr) (d : D), ρ[k]? = some a → n ≤ k → g k = some d → Is K Z (ρ.take n) H (.ref a) d
/-- what comes behind the n-th stands not among the first n -/
theorem not_take (nd : ρ.Nodup) {k : Nat} {a : Addr} (hc : ρ[k]? = some a) (hk : n ≤ k) : a ∉ ρ.take n := fun z => by
  obtain ⟨j, hj, e2⟩ := List.getElem_of_mem z
  have hj2 : j < n := by rw [List.length_take] at hj; omega
  have e3 : ρ[j]? = some a := by
    rw [← List.getElem?_take_of_lt hj2, List.getElem?_eq_getElem hj, e2]
  have hkj : k = j := (List.getElem?_inj (List.getElem?_eq_some_iff.mp hc).1 nd).mp (hc.trans e3.symm)
  omega
theorem mapS {α β : Type} {o : Option α} {f : α → β} {b : β} (h : o.map f = some b) : ∃ a, o = some a ∧ f a = b := by
  cases o with
  | none => cases h
  | some a => exact ⟨a, rfl, Option.some.inj h⟩
mutual
theorem Is.frz {g : Nat → Option D} (nd : ρ.Nodup) (zd : ∀ a, a ∈ ρ → a ∉ Z) (hg : Tells K Z ρ H n g) : ∀ {v : V} {d e : D}, Is K Z ρ H v d → fzD n g d = some e → Is K Z (ρ.take n) H v e
  | _, _, _, .non, h => by cases h; exact .non
  | _, _, _, .bl b, h => by cases h; exact .bl b
  | _, _, _, .int i, h => by cases h; exact .int i
  | _, _, _, .str x, h => by cases h; exact .str x
  | _, _, _, .tup h r, e => by
    obtain ⟨ys, e1, rfl⟩ := mapS (show (fzL n g _).map D.tup = some _ from e)
    exact .tup h (IsAll.frz nd zd hg r e1)
  | _, _, _, .lst h r, e => by
    obtain ⟨ys, e1, rfl⟩ := mapS (show (fzL n g _).map D.lst = some _ from e)
    exact .lst h.cut (IsAll.frz nd zd hg r e1)
  | _, _, _, .scr h r, e => by
    obtain ⟨ys, e1, rfl⟩ := mapS (show (fzL n g _).map D.scr = some _ from e)
    exact .scr (h.elim (fun ⟨o, h, m⟩ => .inl ⟨o, h, fun z => m (List.mem_of_mem_take z)⟩) .inr) (IsAll.frz nd zd hg r e1)
  | _, _, _, .oth h r, e => by
    obtain ⟨ys, e1, rfl⟩ := mapS (show (fzL n g _).map (D.oth _) = some _ from e)
    exact .oth (h.imp fun b o h1 h2 h3 => ⟨h1, fun z => h2 (List.mem_of_mem_take z), h3⟩) (IsAll.frz nd zd hg r e1)
  | _, _, _, .ty x, h => by cases h; exact .ty x
  | _, _, _, .cell (k := k) (a := a) hc, e => by
    have e' : (if k < n then some (D.cell k) else g k) = some _ := e
    by_cases hk : k < n
    · rw [if_pos hk] at e'
      cases e'
      exact .cell (take_cell hc hk)
    · rw [if_neg hk] at e'
      exact hg k a _ hc (by omega) e'
theorem IsAll.frz {g : Nat → Option D} (nd : ρ.Nodup) (zd : ∀ a, a ∈ ρ → a ∉ Z) (hg : Tells K Z ρ H n g) : ∀ {vs : List V} {ds es : List D}, IsAll K Z ρ H vs ds → fzL n g ds = some es → IsAll K Z (ρ.take n) H vs es
  | _, _, _, .nil, h => by cases h; exact .nil
  | _, _, _, .cons (d := d) (ds := ds) h r, e => by
    have e' : (match fzD n g d, fzL n g ds with
      | some y, some ys => some (y :: ys)
      | _, _ => none) = some _ := e
    cases e1 : fzD n g d with
    | none => rw [e1] at e'; cases e'
    | some y =>
      cases e2 : fzL n g ds with
      | none => rw [e1, e2] at e'; cases e'
      | some ys =>
        rw [e1, e2] at e'
        cases e'
        exact .cons (Is.frz nd zd hg h e1) (IsAll.frz nd zd hg r e2)
end
theorem fzG_ok (k : Ok K Z ρ S H) : ∀ i, Tells K Z ρ H n (fzG n S i)
  | 0, _, _, _, _, _, e => by cases e
  | i + 1, j, a, d, h1, h2, e => by
    unfold fzG at e
    have nt := not_take k.nd h1 h2
    have nz := k.zd a (List.mem_of_getElem? h1)
    split at e
    · rename_i ys q
      obtain ⟨vs, h3, r⟩ := k.cellL h1 q
      obtain ⟨zs, e1, rfl⟩ := mapS e
      exact .lst ⟨h3, nt, nz⟩ (r.frz k.nd k.zd (fzG_ok k i) e1)
    · rename_i t ys q
      obtain ⟨vs, h3, w, r⟩ := k.cellO h1 q
      obtain ⟨zs, e1, rfl⟩ := mapS e
      exact .oth (.of h3 w nt nz) (r.frz k.nd k.zd (fzG_ok k i) e1)
    · cases e
theorem Ok.cut (k : Ok K Z ρ S H) (c : clS n (S.take n) = true) : Ok K Z (ρ.take n) (S.take n) H where
  len := by rw [List.length_take, List.length_take, k.len]
  nd := k.nd.sublist (List.take_sublist _ _)
  zd := fun a h => k.zd a (List.mem_of_mem_take h)
  zt := k.zt
  cell := fun i a q h1 h2 => by
    have hi : i < n := by
      have := (List.getElem?_eq_some_iff.mp h1).1
      rw [List.length_take] at this; omega
    have c2 := List.all_eq_true.mp c q (List.mem_of_getElem? h2)
    rw [List.getElem?_take_of_lt hi] at h1 h2
    obtain ⟨vs, e1, r⟩ := k.cell i a q h1 h2
    exact ⟨vs, e1, r.cut c2⟩
theorem Ext.cut (e : Ext ρ H ρ' H') : ρ'.take ρ.length = ρ ∧ Ext ρ H ρ H' := by
  obtain ⟨m, q, f⟩ := e.more
  exact ⟨by rw [q, List.take_left], ⟨[], by simp, fun _ h => by cases h⟩, e.keep, e.there, e.frz⟩
theorem MP.fnT {m : SM} {Q : VK} (hl : ρ.length = S.length) (h : MP (mFnT n m ds S) (Pt K Z ρ H Q) No) : MP (mFnK n m ds S) (Pt K Z ρ H Q) No := by
  unfold mFnT at h
  cases q : mFnK n m ds S with
  | no => rw [q] at h; exact h
  | exc c v S' => rw [q] at h; exact h
  | ok d S' =>
    rw [q] at h
    intro ρ' H' v e k i
    have h' : MP (cutM S.length d S') (Pt K Z ρ H Q) No := h
    unfold cutM at h'
    split at h'
    · rename_i c
      split at h'
      · rename_i d' e'
        obtain ⟨e1, e2⟩ := e.cut
        have k2 := k.cut c.2
        have i2 := i.frz k.nd k.zd (fzG_ok k 4) e'
        rw [← hl, e1] at k2 i2
        rw [← hl] at h'
        exact h' ρ H' v e2 k2 i2
      · exact h'.elim
    · exact h'.elim
end
/-! ### a def of the text -/
section
variable {P : Program} {w : World} {K : PySem.W.Frag} {mg : Str → Option Value} {base : Heap} {x qual : Str} {params : Arguments} {body : List Stmt} {scope : Scope} {f : Addr} {fd : FuncData} {N ps : List Str} {k : Nat} {m : SM}
theorem bnd_of {A : Around} {outer : List Env} {s : Shared} {H : Hp} {args : Args} {us : List Value} {vs : List V} (e0 : Env0 P w K mg base A outer s H) (hb : BindsTo s fd args (ps.zip us)) (r : Vals vs us) (hl : vs.length = ps.length) :
    StX.Bnd CX0 P w K mg base fd args ps A outer s H E0 (fun xs H2 => xs = vs ∧ H2 = H) := fun A' Ex Q' h =>
  hb _ _ _ _ (h s H vs us e0 Un.refl rfl (fun _ _ z => z) r hl ⟨rfl, rfl⟩)
theorem envIs_start {Z ρ : List Addr} {H : Hp} {vs : List V} {ds : List D} (r : IsAll K Z ρ H vs ds) : EnvIs K Z ρ H (start N vs) (stD N.length ds) where
  len := by
    unfold stD L2.start
    rw [List.length_append, List.length_append, List.length_map, List.length_map, r.length, List.length_replicate, List.length_replicate]
  get := fun i d h => by
    unfold stD at h
    unfold L2.start
    by_cases hi : i < ds.length
    · rw [List.getElem?_append_left (by rw [List.length_map]; exact hi), List.getElem?_map] at h
      obtain ⟨d', e1, e2⟩ := mapS h
      cases e2
      obtain ⟨v, e3, iv⟩ := r.get e1
      exact ⟨v, by rw [List.getElem?_append_left (by rw [List.length_map, r.length]; exact hi), List.getElem?_map, e3]; rfl, iv⟩
    · rw [List.getElem?_append_right (by rw [List.length_map]; omega), List.getElem?_replicate] at h
      split at h <;> cases h
theorem runsK (F : FunD K x qual params body scope [] [] f fd) (S : FnScope N ps scope)
    (hbody : ∀ (cdv : Value) (A : Around) (outer : List Env) (s : Shared) (H : Hp), Room k (A.deeper (envOfC qual scope s.heap.objs.size f cdv)) → (A.deeper (envOfC qual scope s.heap.objs.size f cdv)).guards = some [] →
      PSsm (cxOf CX0 P w K mg base N qual scope f cdv A outer s H E0).nox (W0 K) body m) : RunsM P w K mg base (k + 1) f fd ps (mFnK N.length m) := by
  obtain ⟨oc, od, dV, kV, doc, pm, an, cdv, ct, osl, rfl, lk, hcd, _, _⟩ := F.ex
  intro A outer s H args us vs Q Z ρ St ds hr hg e0 hb r hl k0 i0 h
  refine StX.run_bnd lk hcd S hr e0 (bnd_of e0 hb r hl) fun s2 H2 xs ⟨ex, eH⟩ hr2 => ?_
  subst ex eH
  refine ⟨tS K (W0 K) m, PSs.nox (hbody cdv A outer s2 H2 hr2 hg), Z, ρ, St, stD N.length ds, ⟨k0, envIs_start i0⟩, (MP.bind h).imp (fun fl S1 q => ?_) fun _ _ _ z => z⟩
  cases fl with
  | nx ds1 => exact fun ρ1 H1 σ1 e1 t1 => (MP.pure q : Pt _ _ _ _ _ _ _) ρ1 H1 .non e1 t1.ok .non
  | bk ds1 => exact q.elim
  | ct ds1 => exact q.elim
  | rt d => exact (MP.pure q : Pt _ _ _ _ _ _ _)
  | ex c v ds1 => exact q.elim
theorem runsT (F : FunD K x qual params body scope [] [] f fd) (S : FnScope N ps scope)
    (hbody : ∀ (cdv : Value) (A : Around) (outer : List Env) (s : Shared) (H : Hp), Room k (A.deeper (envOfC qual scope s.heap.objs.size f cdv)) → (A.deeper (envOfC qual scope s.heap.objs.size f cdv)).guards = some [] →
      PSsm (cxOf CX0 P w K mg base N qual scope f cdv A outer s H E0).nox (W0 K) body m) : RunsM P w K mg base (k + 1) f fd ps (mFnT N.length m) :=
  fun A outer s H args us vs Q Z ρ St ds hr hg e0 hb r hl k0 i0 h => runsK F S hbody A outer s H args us vs Q Z ρ St ds hr hg e0 hb r hl k0 i0 (h.fnT k0.len)
theorem RunsM.mono {j : Nat} {m : DM} {ps : List Str} (h : RunsM P w K mg base j f fd ps m) (hj : j ≤ k) : RunsM P w K mg base k f fd ps m :=
  fun A outer s H args us vs Q Z ρ St ds hr => h A outer s H args us vs Q Z ρ St ds (hr.mono hj)
end
/-- a def of the module's top by its name -/
structure Has (P : Program) (w : World) (K : PySem.W.Frag) (mg : Str → Option Value) (base : Heap) (k : Nat) (x : Str) (params : Arguments) (body : List Stmt) (scope : Scope) (ps : List Str) (m : DM) : Prop where
  ex : ∃ f fd, FunD K x x params body scope [] [] f fd ∧ mg x = some (.ref f) ∧ RunsM P w K mg base k f fd ps m
/-! ### calls -/
section
variable {X : Cx} {k j : Nat} {x : Str} {params : Arguments} {body : List Stmt} {scope : Scope} {ps ks : List Str} {m : DM} {W : Wsh X.K} {p pos : Pos} {e : Expr} {es : List Expr} {ms mk : AM} {kws : List Keyword}
/-- what a context grants its calls -/
structure Fit (X : Cx) (j : Nat) : Prop where
  room : Room j X.A
  grd : X.A.guards = some []
theorem run_m {f : Addr} {fd : FuncData} {pins : List (Addr × Obj)} {σ : L2.St} {H : Hp} {s : Shared} {Q : VK} {args : List Value} {kw : List (Str × Value)} {us : List Value} {vs : List V} {Z ρ : List Addr} {S : Sto} {ds : List D}
    (R : RunsM X.prog X.w X.K X.mg X.base k f fd ps m) (ft : Fit X j) (hk : k ≤ j) (I : Inv X pins σ H s) (hb : BindsTo s fd ⟨args, kw⟩ (ps.zip us)) (r : Vals vs us) (hl : vs.length = ps.length) (k0 : Ok X.K Z ρ S H) (i0 : IsAll X.K Z ρ H vs ds)
    (h : MP (m ds S) (Pt X.K Z ρ H Q) No) : wpAny (model X.prog X.w) X.A (call (.ref f) args kw) (EP X pins σ Q) X.xe s := by
  refine wpAny_call (codeAny_mono (R X.A X.stack s H ⟨args, kw⟩ us vs Q Z ρ S ds (ft.room.mono hk) ft.grd I.env0 hb r hl k0 i0 h) fun q s' hq => ?_)
  cases q with
  | error e => exact hq.elim
  | ok fl =>
    cases fl with
    | ret u => exact I.after hq
    | next => exact hq.elim
    | brk => exact hq.elim
    | cont => exact hq.elim
def mApp (n : Nat) (ms : AM) (m : DM) : EM := fun ds => ms ds >>= fun xs => if xs.length = n then M.cl (m xs) else stuck
theorem app_at {σ : L2.St} {H : Hp} {Q : VK} {n : Nat} (h : tE X.K W (mApp n ms m) σ H Q) : tA X.K W ms σ H fun vs H1 => ∃ Z ρ S ds, Ok X.K Z ρ S H1 ∧ IsAll X.K Z ρ H1 vs ds ∧ vs.length = n ∧ MP (m ds S) (Pt X.K Z ρ H1 Q) No := by
  obtain ⟨Z, ρ, S, ds, t, h⟩ := h
  exact tA_bind t h fun xs S1 ρ1 H1 vs e1 t1 i q => by
    by_cases hl : xs.length = n
    · rw [if_pos hl] at q
      exact ⟨Z, ρ1, S1, xs, t1.ok, i, by rw [i.length]; exact hl, MP.cl (q.imp (fun _ _ z => z.up e1) fun _ _ _ z => z)⟩
    · rw [if_neg hl] at q; exact q.elim
/-- f(a, ..): every parameter, by its place -/
theorem em_call (c : Has X.prog X.w X.K X.mg X.base k x params body scope ps m) (ft : Fit X j) (hk : k ≤ j) (hg : Gl X x)
    (hb : ∀ (kV doc pm : Value) (an : Option Addr) (cdv ct : Value) (us : List Value), us.length = ps.length → bindArgs (PySem.W.fnOf x x params body scope .none kV doc pm an cdv ct) ⟨us, []⟩ = pure (ps.zip us))
    (ha : PAm X W (e :: es) ms) (hdb : (x == ("__debug__" : Str)) = false := by decide)
    (he : starEach (e :: es) X.env = (false, eval e X.env) :: starEach es X.env := by rfl) (hpl : (backTo pos (starEach es X.env)).any (·.1) = false := by rfl) :
    PEm X W (.Call (.Name x p) (e :: es) [] pos) (mApp ps.length ms m) := by
  obtain ⟨f, fd, F, hm, R⟩ := c.ex
  have kp := F.kp
  obtain ⟨oc, od, dV, kV, doc, pm, an, cdv, ct, osl, rfl, lk, hcd, hd, _⟩ := F.ex
  obtain rfl : dV = .none := hd.elim (fun z => z.2) fun z => absurd rfl z.1
  refine ⟨fun pins s σ H Q I h => wpAny_Call_Name_kw (ld_glob I hg hm ?_ hdb)⟩
  refine PySem.W.callWith_K (h₀ := X.base) I.ok.mod.kin kp (thn (ha.run pos pins s σ H _ I (app_at h)) fun us s1 ⟨vs, H1, I1, r, Z, ρ, S, ds, k0, i0, hl, q⟩ => ⟨I1.kIn, ?_⟩) he hpl
  exact run_m (args := us) (kw := []) R ft hk I1 (.of_eq (hb kV doc pm an cdv ct us (by rw [← r.length]; exact hl))) r hl k0 i0 q
/-! keywords -/
def pick {α : Type} (p : List Nat) (l : List α) : List α := p.filterMap fun i => l[i]?
theorem pick_vals {vs : List V} {us : List Value} (r : Vals vs us) : ∀ p : List Nat, Vals (pick p vs) (pick p us)
  | [] => .nil
  | i :: p => by
    unfold pick
    rw [List.filterMap_cons, List.filterMap_cons]
    have hl := r.length
    cases q : vs[i]? with
    | none =>
      have : us[i]? = none := by rw [List.getElem?_eq_none_iff] at q ⊢; omega
      rw [this]
      exact pick_vals r p
    | some v =>
      obtain ⟨u, hu, rv⟩ := r.get q
      rw [hu]
      exact .cons rv (pick_vals r p)
theorem pick_is {K : PySem.W.Frag} {Z ρ : List Addr} {H : Hp} {vs : List V} {ds : List D} (r : IsAll K Z ρ H vs ds) : ∀ p : List Nat, IsAll K Z ρ H (pick p vs) (pick p ds)
  | [] => .nil
  | i :: p => by
    unfold pick
    rw [List.filterMap_cons, List.filterMap_cons]
    cases q : ds[i]? with
    | none =>
      have : vs[i]? = none := by rw [List.getElem?_eq_none_iff] at q ⊢; rw [r.length]; omega
      rw [this]
      exact pick_is r p
    | some d =>
      obtain ⟨v, hv, iv⟩ := r.get q
      rw [hv]
      exact .cons iv (pick_is r p)
def PKm (X : Cx) (W : Wsh X.K) (kws : List Keyword) (m : AM) : Prop := PK X kws (tA X.K W m)
theorem km_nil : PKm X W [] mNil := ⟨fun pos pins s σ H Q I ⟨Z, ρ, S, ds, t, h⟩ => pk_nil.run pos pins s σ H Q I ((MP.pure h : PtA _ _ _ _ _ _ _) ρ H [] Ext.refl t.ok .nil)⟩
theorem km_cons {nm : Option Str} {kpos : Pos} {ma : EM} (ha : PEm X W e ma) (hr : PKm X W kws mk) : PKm X W (⟨nm, e, kpos⟩ :: kws) (mCons ma mk) :=
  ⟨fun pos pins s σ H Q I ⟨Z, ρ, S, ds, t, h⟩ => (pk_cons ha hr).run pos pins s σ H Q I (tE_bind t h fun d S1 ρ1 H1 v e1 t1 i q => tA_bind t1 q fun d2 S2 ρ2 H2 v2 e2 t2 i2 q2 =>
    (MP.pure q2 : PtA _ _ _ _ _ _ _) ρ2 H2 _ (e1.trans e2) t2.ok (.cons (i.mono t1.ok e2) i2))⟩
/-- f(.., k = v, ..): pr the places, in the parameters' order, within what is written -/
def mAppK (n1 n2 : Nat) (pr : List Nat) (ms mk : AM) (m : DM) : EM := fun ds => ms ds >>= fun xs => mk ds >>= fun ys => if xs.length = n1 ∧ ys.length = n2 then M.cl (m (pick pr (xs ++ ys))) else stuck
theorem appK_at {σ : L2.St} {H : Hp} {Q : VK} {n1 n2 : Nat} {pr : List Nat} (h : tE X.K W (mAppK n1 n2 pr ms mk m) σ H Q) :
    tA X.K W ms σ H fun vs H1 => tA X.K W mk σ H1 fun zs H2 => ∃ Z ρ S ds, Ok X.K Z ρ S H2 ∧ IsAll X.K Z ρ H2 (pick pr (vs ++ zs)) ds ∧ vs.length = n1 ∧ zs.length = n2 ∧ MP (m ds S) (Pt X.K Z ρ H2 Q) No := by
  obtain ⟨Z, ρ, S, ds, t, h⟩ := h
  refine tA_bind t h fun xs S1 ρ1 H1 vs e1 t1 i q => tA_bind t1 q fun ys S2 ρ2 H2 zs e2 t2 i2 q2 => ?_
  by_cases hl : xs.length = n1 ∧ ys.length = n2
  · rw [if_pos hl] at q2
    exact ⟨Z, ρ2, S2, _, t2.ok, pick_is ((i.mono t1.ok e2).append i2) pr, by rw [i.length]; exact hl.1, by rw [i2.length]; exact hl.2, MP.cl (q2.imp (fun _ _ z => z.up (e1.trans e2)) fun _ _ _ z => z)⟩
  · rw [if_neg hl] at q2; exact q2.elim
theorem em_callK {pr : List Nat} (c : Has X.prog X.w X.K X.mg X.base k x params body scope ps m) (ft : Fit X j) (hk : k ≤ j) (hg : Gl X x)
    (hb : ∀ (kV doc pm : Value) (an : Option Addr) (cdv ct : Value) (us ws : List Value), us.length = (e :: es).length → ws.length = ks.length → bindArgs (PySem.W.fnOf x x params body scope .none kV doc pm an cdv ct) ⟨us, ks.zip ws⟩ = pure (ps.zip (pick pr (us ++ ws))) ∧ (pick pr (us ++ ws)).length = ps.length)
    (ha : PAm X W (e :: es) ms) (hkw : PKm X W kws mk) (hall : (backToKw pos (keywordEach kws X.env)).all (·.1.isSome) = true := by rfl) (hks : (backToKw pos (keywordEach kws X.env)).filterMap (·.1) = ks := by rfl)
    (hdb : (x == ("__debug__" : Str)) = false := by decide) (he : starEach (e :: es) X.env = (false, eval e X.env) :: starEach es X.env := by rfl)
    (hpl : ((backTo pos (starEach (e :: es) X.env)).any (·.1) || (backToKw pos (keywordEach kws X.env)).any (·.1.isNone)) = false := by rfl) :
    PEm X W (.Call (.Name x p) (e :: es) kws pos) (mAppK (e :: es).length ks.length pr ms mk m) := by
  obtain ⟨f, fd, F, hm, R⟩ := c.ex
  have kp := F.kp
  obtain ⟨oc, od, dV, kV, doc, pm, an, cdv, ct, osl, rfl, lk, hcd, hd, _⟩ := F.ex
  obtain rfl : dV = .none := hd.elim (fun z => z.2) fun z => absurd rfl z.1
  refine ⟨fun pins s σ H Q I h => wpAny_Call_Name_kw (ld_glob I hg hm ?_ hdb)⟩
  refine PySem.W.callWith_KW (h₀ := X.base) I.ok.mod.kin kp hall (thn (ha.run pos pins s σ H _ I (appK_at h)) fun us s1 ⟨vs, H1, I1, r, q⟩ => ?_) hpl he
  refine thn (hkw.run pos pins s1 σ H1 _ I1 q) fun ws s2 ⟨zs, H2, I2, rz, Z, ρ, S, ds, k0, i0, l1, l2, q2⟩ => ⟨I2.kIn, ?_⟩
  rw [hks]
  have b := hb kV doc pm an cdv ct us ws (by rw [← r.length]; exact l1) (by rw [← rz.length]; exact l2)
  have rr := pick_vals (r.append rz) pr
  exact run_m (args := us) (kw := ks.zip ws) R ft hk I2 (.of_eq b.1) rr (by rw [rr.length]; exact b.2) k0 i0 q2
theorem em_callK0 {pr : List Nat} {kw : Keyword} (c : Has X.prog X.w X.K X.mg X.base k x params body scope ps m) (ft : Fit X j) (hk : k ≤ j) (hg : Gl X x)
    (hb : ∀ (kV doc pm : Value) (an : Option Addr) (cdv ct : Value) (ws : List Value), ws.length = ks.length → bindArgs (PySem.W.fnOf x x params body scope .none kV doc pm an cdv ct) ⟨[], ks.zip ws⟩ = pure (ps.zip (pick pr ws)) ∧ (pick pr ws).length = ps.length)
    (hkw : PKm X W (kw :: kws) mk) (hall : (backToKw pos (keywordEach (kw :: kws) X.env)).all (·.1.isSome) = true := by rfl) (hks : (backToKw pos (keywordEach (kw :: kws) X.env)).filterMap (·.1) = ks := by rfl)
    (hdb : (x == ("__debug__" : Str)) = false := by decide)
    (hpl : ((backTo pos (starEach [] X.env)).any (·.1) || (backToKw pos (keywordEach (kw :: kws) X.env)).any (·.1.isNone)) = false := by rfl) :
    PEm X W (.Call (.Name x p) [] (kw :: kws) pos) (mAppK 0 ks.length pr mNil mk m) := by
  obtain ⟨f, fd, F, hm, R⟩ := c.ex
  have kp := F.kp
  obtain ⟨oc, od, dV, kV, doc, pm, an, cdv, ct, osl, rfl, lk, hcd, hd, _⟩ := F.ex
  obtain rfl : dV = .none := hd.elim (fun z => z.2) fun z => absurd rfl z.1
  refine ⟨fun pins s σ H Q I h => wpAny_Call_Name_kw (ld_glob I hg hm ?_ hdb)⟩
  have h2 : tA X.K W mk σ H fun zs H2 => ∃ Z ρ S ds, Ok X.K Z ρ S H2 ∧ IsAll X.K Z ρ H2 (pick pr zs) ds ∧ zs.length = ks.length ∧ MP (m ds S) (Pt X.K Z ρ H2 Q) No := by
    obtain ⟨Z, ρ, S, ds, t, h⟩ := h
    have h' : MP ((mk ds >>= fun ys => if ([] : List D).length = 0 ∧ ys.length = ks.length then M.cl (m (pick pr ([] ++ ys))) else stuck) S) (Pt X.K Z ρ H Q) (W.P Z ρ H σ ds) := h
    refine tA_bind t h' fun ys S2 ρ2 H2 zs e2 t2 i2 q2 => ?_
    by_cases hl : ([] : List D).length = 0 ∧ ys.length = ks.length
    · rw [if_pos hl, List.nil_append] at q2
      exact ⟨Z, ρ2, S2, _, t2.ok, pick_is i2 pr, by rw [i2.length]; exact hl.2, MP.cl (q2.imp (fun _ _ z => z.up e2) fun _ _ _ z => z)⟩
    · rw [if_neg hl] at q2; exact q2.elim
  refine PySem.W.callWith_KW0 (h₀ := X.base) I.ok.mod.kin kp hall ?_ hpl
  refine thn (hkw.run pos pins s σ H _ I h2) fun ws s2 ⟨zs, H2, I2, rz, Z, ρ, S, ds, k0, i0, l2, q2⟩ => ⟨I2.kIn, ?_⟩
  rw [hks]
  have b := hb kV doc pm an cdv ct ws (by rw [← rz.length]; exact l2)
  have rr := pick_vals rz pr
  exact run_m (args := []) (kw := ks.zip ws) R ft hk I2 (.of_eq b.1) rr (by rw [rr.length]; exact b.2) k0 i0 q2
end
end Pv

/-! Pv14: the end: a law as a function on data. -/
namespace Pv
open PySem PySem.Spec PyProof.Rows L2
/-- the script alone -/
def scrH (K : PySem.W.Frag) (a : Addr) (u : Obj) (ns : List Int) : Hp := fun b => if b = a ∧ K.lookup a = none then some (.frz u (.lst (ns.map V.int))) else none
theorem scrH_some {K : PySem.W.Frag} {a b : Addr} {u : Obj} {ns : List Int} {x : HO} (h : scrH K a u ns b = some x) : b = a ∧ K.lookup a = none ∧ x = .frz u (.lst (ns.map V.int)) := by
  unfold scrH at h
  by_cases c : b = a ∧ K.lookup a = none
  · rw [if_pos c] at h; exact ⟨c.1, c.2, (Option.some.inj h).symm⟩
  · rw [if_neg c] at h; cases h
section
variable {P : Program} {w : World} {K : PySem.W.Frag} {mg mb : Str → Option Value} {k : Nat} {fa a : Addr} {fd : FuncData} {x : Str} {m : DM} {s₁ : Shared} {vs : List Value} {ns : List Int}
theorem law_run (KX : K.In s₁.heap) (hns : s₁.heap.Ns mainGlobals mg) (hb : s₁.heap.Ns builtinsNs mb) (hbb : ∀ x : Str, x ≠ "__name__" → mb x = bootBuiltins x) (hlim : s₁.heap.NoLimit) (hg : s₁.gens = #[])
    (ha : s₁.heap.get? a = some { cls := .type "list", data := .seq vs.toArray }) (hi : IntsAre vs ns) (hl : ns.length ≤ sizeLine) (hr : Room k callerA)
    (F : ∀ base : Heap, K.In base → base.Ns mainGlobals mg → RunsM P w K mg base k fa fd [x] m) (hbind : ∀ (s : Shared) (u : Value), BindsTo s fd ⟨[u], []⟩ [(x, u)])
    (hm : ∃ S, m [.scr (ns.map D.int)] [] = .ok (.bl true) S) :
    codeAny (model P w) callerA (.call (.ref fa) ⟨[.ref a], []⟩) (fun r s' => r = .ok (.ret (.bool true)) ∧ OldK s₁.heap s'.heap ∧ s'.os = s₁.os ∧ AllBare s'.gens) s₁ := by
  generalize hu : ({ cls := .type "list", data := .seq vs.toArray } : Obj) = u at ha
  have look : ∀ {b : Addr} {o : Obj}, s₁.heap.get? b = some o → (scrH K a u ns b = none ∨ (b = a ∧ o = u ∧ K.lookup a = none)) := fun {b o} e => by
    cases q : scrH K a u ns b with
    | none => exact .inl rfl
    | some y =>
      obtain ⟨rfl, h2, _⟩ := scrH_some q
      rw [ha] at e
      exact .inr ⟨rfl, (Option.some.inj e).symm, h2⟩
  have inB : ∀ {b : Addr} {o : Obj}, s₁.heap.get? b = some o → o ≠ u → (hidT s₁.heap (scrH K a u ns)).get? b = some o := fun {b o} e n =>
    hidT_get e ((look e).elim id fun z => absurd z.2.1 n)
  have toNs : ∀ {b : Addr} {t : Str → Option Value}, s₁.heap.Ns b t → (hidT s₁.heap (scrH K a u ns)).Ns b t := fun {b t} h => by
    obtain ⟨o, es, ep, e, d, r⟩ := h
    refine ⟨o, es, ep, inB e fun z => ?_, d, r⟩
    rw [z, ← hu] at d
    cases d
  have kB : K.In (hidT s₁.heap (scrH K a u ns)) := fun b o e => hidT_get (KX b o e) ((look (KX b o e)).elim id fun z => by
    obtain ⟨rfl, _, z⟩ := z
    rw [e] at z; cases z)
  have ok1 : HOk P w (scrH K a u ns) s₁.heap := fun b y z => by
    obtain ⟨rfl, _, rfl⟩ := scrH_some z
    exact ⟨ha, by rw [List.length_map]; exact hl, vs, 0, vals_ints hi, by rw [ha, ← hu]⟩
  obtain ⟨mc, l1, l2⟩ := hlim
  have mod : Mod K mg (hidT s₁.heap (scrH K a u ns)) := ⟨kB, toNs hns, ⟨mb, toNs hb, hbb⟩, ⟨mc, toNs l1, l2⟩⟩
  have nofr : ∀ b : Addr, b ∉ frs ([] : List Env) := fun b z => by cases z
  have e0 : Env0 P w K mg (hidT s₁.heap (scrH K a u ns)) callerA [] s₁ (scrH K a u ns) :=
    ⟨rfl, mod, fun b o e => of_hidT e, Nat.le_of_eq (hidT_size _ _), trivial, fun b z => absurd z (nofr b), ok1, .of_eq hg⟩
  have at0 : Is K [] [] (scrH K a u ns) (.ref a) (.scr (ns.map D.int)) := by
    refine .scr ?_ (IsAll.ints ns)
    cases q : K.lookup a with
    | none => exact .inl ⟨u, if_pos ⟨rfl, q⟩, fun z => by cases z⟩
    | some o =>
      have e := KX a o q
      rw [ha] at e
      cases e
      subst hu
      exact .inr ⟨_, vs.toArray, 0, q, rfl, rfl, rfl, by rw [List.size_toArray, hi.length]; exact hl, by simpa using vals_ints hi⟩
  obtain ⟨S', eS⟩ := hm
  have ok0 : Ok K [] [] [] (scrH K a u ns) := ⟨rfl, List.nodup_nil, (fun _ h => by cases h), (fun _ h => by cases h), (fun i b c h1 _ => by simp at h1)⟩
  refine codeAny_mono (F _ kB (toNs hns) callerA [] s₁ (scrH K a u ns) ⟨[.ref a], []⟩ [.ref a] [.ref a] (fun v _ => v = .bl true) [] [] [] [.scr (ns.map D.int)] hr rfl e0 (hbind s₁ (.ref a)) (.cons rfl .nil) rfl ok0 (.cons at0 .nil) ?_) fun r s' h => ?_
  · rw [eS]
    intro ρ' H' v e k i
    cases i
    rfl
  · cases r with
    | error e => exact h.elim
    | ok fl =>
      cases fl with
      | next => exact h.elim
      | brk => exact h.elim
      | cont => exact h.elim
      | ret t =>
        obtain ⟨v, H', os, bare, un, hok', rv, q⟩ := h
        subst q
        obtain rfl : t = Value.bool true := rv
        refine ⟨rfl, OldK.of_keep fun b o e => ?_, os, bare⟩
        rcases look e with z | ⟨rfl, rfl, z⟩
        · exact un.keep b o e z (nofr b) (by simp)
        · exact (hok' b _ (un.frzs b o _ (if_pos ⟨rfl, z⟩))).1
end
/-- a law whose def runs as m over any base, and m answers true -/
theorem law_end {l : PySem.W.OpenLaw} {n k : Nat} {q : Program} {loose : List Str} {XP : (Str → Option Value) → Heap → Prop} {YP : World → Heap → Prop} {d : DefRec} {x : Str} {m : DM}
    (hn : l.most = some n) (hn2 : n ≤ sizeLine) (hdf : d.params.defaults = []) (hr : Room k callerA)
    (F : ∀ (w : World) (mg : Str → Option Value) (fa : Addr) (h : Heap), YP w h → h.Ns mainGlobals mg → mg d.name = some (.ref fa) →
      ∃ (K : PySem.W.Frag) (fd : FuncData), K.In h ∧ (∀ (s : Shared) (u : Value), BindsTo s fd ⟨[u], []⟩ [(x, u)]) ∧ ∀ base : Heap, K.In base → base.Ns mainGlobals mg → RunsM l.prog w K mg base k fa fd [x] m)
    (hm : ∀ ns : List Int, ns.length ≤ n → ∃ S, m [.scr (ns.map D.int)] [] = .ok (.bl true) S) :
    PySem.W.WalkO q loose XP YP l.row.toRowW d [] (fun f vs => PySem.call f vs) :=
  Att.attach_call hn hdf fun w s₀ s₁ mg mb fa o pm cd doc a vs ns G Y ho hd hcd hmg hobj hints hlen hg =>
    have ⟨_, _, KX, hb, hF⟩ := F w mg fa _ Y G.T.g hmg
    law_run KX G.T.g G.T.b G.T.builtins G.T.nolimit hg hobj hints (Nat.le_trans hlen hn2) hr hF hb (hm ns hlen)
end Pv

/-! Pv15: turned ones, list(range), zip, enumerate, what is walked of cells. -/
namespace Pv
open PySem PySem.Spec PyProof.Rows L2
/-! ### e[::-1] -/
def RevR (X : Cx) (r : V → Hp → VK → Prop) : Prop :=
  ∀ (pins : List (Addr × Obj)) (s : Shared) (σ : L2.St) (H : Hp) (x : V) (v vs : Value) (sl : Addr) (Q : VK), Inv X pins σ H s → RelV x v → s.heap.IsSliceOf sl .none .none vs → IsPart vs (some (-1)) → r x H Q →
    ∃ T id, typeLookup (.type T) "__getitem__" = pure (some (.builtin id)) ∧ s.TypeIs v T ∧ wpAny (model X.prog X.w) X.A (getItem v (.ref sl)) (EP X pins σ Q) X.xe s
theorem RevR.or {X : Cx} {r r' : V → Hp → VK → Prop} (h : RevR X r) (h' : RevR X r') : RevR X (fun x H Q => r x H Q ∨ r' x H Q) :=
  fun pins s σ H x v vs sl Q I rx hs ps q => q.elim (h pins s σ H x v vs sl Q I rx hs ps) (h' pins s σ H x v vs sl Q I rx hs ps)
def rRevL (K : PySem.W.Frag) : V → Hp → VK → Prop := fun x H Q => ∃ a xs, x = .ref a ∧ SqL K H a xs ∧ ∀ p, H p = none → Q (.ref p) (upd H p (.lst xs.reverse))
def rRevT (K : PySem.W.Frag) : V → Hp → VK → Prop := fun x H Q => ∃ a xs, x = .ref a ∧ SqT K H a xs ∧ ∀ p, H p = none → Q (.ref p) (upd H p (.tup xs.reverse))
def rRevS : V → Hp → VK → Prop := fun x H Q => ∃ z : Str, x = .str z ∧ z.length ≤ 1000000 ∧ Q (.str ⟨z.cps.toList.reverse.toArray⟩) H
section
variable {X : Cx}
theorem rev_list : RevR X (rRevL X.K) := by
  intro pins s σ H x v vs sl Q I rx hs ps h
  obtain ⟨a, xs, rfl, hx, q⟩ := h
  cases rx
  obtain ⟨its, r, ht, hz⟩ := I.list hx
  have hlen := r.length
  refine ⟨"list", _, PySem.slot_list_getitem.lookup, ht.isList.typeIs, wpAny_getItem_list_slice ht.isList hs .none .none ps (by decide) ?_ (by rw [List.size_toArray]; omega)⟩
  rw [PySem.W.krv_pick]
  refine ⟨.ref _, _, I.laid (t' := s.toks) (o := .lst xs.reverse) (fun b ob q => Heap.get?_push_of_some _ q) (Nat.le_refl _) ?_, rfl, q _ (I.hok.fresh (Nat.le_refl _))⟩
  exact ⟨by rw [List.length_reverse]; exact hz, _, 0, r.reverse, Heap.get?_push_size _ rfl⟩
theorem rev_range {α : Type} (xs : Array α) : (List.range xs.size).filterMap (fun (k : Nat) => xs[(((xs.size : Int) - 1) + (k : Int) * (-1)).toNat]?) = xs.toList.reverse := by
  have e : ∀ k ∈ List.range xs.size, xs[(((xs.size : Int) - 1) + (k : Int) * (-1)).toNat]? = ((fun j => xs[j]?) ∘ fun k => xs.size - 1 - k) k := fun k hk => by
    have := List.mem_range.mp hk
    show _ = xs[xs.size - 1 - k]?
    congr 1
    omega
  have fc : ∀ (l : List Nat) {f g : Nat → Option α}, (∀ k ∈ l, f k = g k) → l.filterMap f = l.filterMap g := by
    intro l f g h
    induction l with
    | nil => rfl
    | cons a l ih => rw [List.filterMap_cons, List.filterMap_cons, h a List.mem_cons_self, ih fun k hk => h k (List.mem_cons_of_mem _ hk)]
  rw [fc _ e, ← List.filterMap_map, PySem.W.krv_range, List.filterMap_reverse, PySem.W.krv_all]
section
variable {prog : Program} {w : World} {A : Around} {E : Value → Shared → Prop} {s : Shared}
theorem applied_rev {sl : Addr} {vs : Value} {n : Nat} {Q : Int × Int × Nat → Shared → Prop} (hs : s.heap.IsSliceOf sl .none .none vs) (ps : IsPart vs (some (-1)))
    (h : Q ((n : Int) - 1, -1, n) s) : wpAny (model prog w) A (Builtin.Slice.sliceApplied (.ref sl) (pure (n : Int))) Q E s := by
  obtain ⟨os, hos, hcs, hds⟩ := id hs
  unfold Builtin.Slice.sliceApplied Builtin.Slice.sliceFields
  refine wpAny_bind (wpAny_bind (wpAny_field hos hds (x := .none) rfl (wpAny_bind (wpAny_field hos hds (x := .none) rfl (wpAny_bind (wpAny_field hos hds (x := vs) rfl (wpAny_pure ?_)))))))
  refine wpAny_bind (HT.slicePart_ ps ?_)
  show wpAny _ _ (if ((-1 : Int) == 0) = true then _ else _) _ _ s
  rw [if_neg (by decide)]
  refine wpAny_bind (HT.slicePart_ .none (wpAny_bind (HT.slicePart_ .none (wpAny_bind (wpAny_pure ?_)))))
  show wpAny _ _ (pure ((n : Int) - 1, (-1 : Int), Builtin.Slice.slicePlaces ((n : Int) - 1) (-1) (-1))) _ _ s
  have e : Builtin.Slice.slicePlaces ((n : Int) - 1) (-1) (-1) = n := by
    unfold Builtin.Slice.slicePlaces
    rw [if_neg (by decide)]
    by_cases hn : (n : Int) - 1 > -1
    · rw [if_pos hn, show (- (-1) : Int) = 1 by decide, Int.ediv_one]
      omega
    · rw [if_neg hn]
      omega
  rw [e]
  exact wpAny_pure h
theorem get_tup_rev {t sl : Addr} {items : Array Value} {vs : Value} {Q : Value → Shared → Prop} (ht : IsTup s.heap t items) (hs : s.heap.IsSliceOf sl .none .none vs) (ps : IsPart vs (some (-1)))
    (h : Q (.ref s.heap.objs.size) { s with heap := s.heap.push { cls := .type "tuple", data := .seq items.toList.reverse.toArray } }) (hsz : items.size ≤ sizeLine) : wpAny (model prog w) A (getItem (.ref t) (.ref sl)) Q E s := by
  obtain ⟨os, hos, hcs, hds⟩ := id hs
  have hTs : s.TypeIs (.ref sl) "slice" := ⟨os, hos, hcs⟩
  have hk : sizeOk (.seq items.toList.reverse.toArray) := by
    show items.toList.reverse.toArray.size ≤ sizeLine
    simpa using hsz
  unfold getItem
  try with_reducible refine wpAny_holding ?_
  first | refine wpAny_bind (wpAny_pure ?_) | skip
  refine wpAny_bind (wpAny_sequenceKey ht.typeIs (by decide) ?_)
  refine wpAny_bind (wpAny_callSpecial?_slot (name := Str.ofString "__getitem__") ht.typeIs PyProof.Rows.slot_tuple_getitem
    (wpAny_call_entry PyProof.Rows.slot_tuple_getitem ht.typeIs entry_tuple_getitem ?_ (args_tuple_getitem _ _)))
  show wpAny _ _ (Builtin.Tuple.tupleItemsOf (.ref t) >>= _) _ _ s
  refine wpAny_bind (PyProof.Rows.tupleItemsOf_ ht ?_)
  refine wpAny_bind (wpAny_typeOf hTs ?_)
  rw [if_pos (by decide)]
  refine wpAny_bind (applied_rev hs ps ?_)
  show wpAny _ _ (if (((items.size : Int) - 1) == 0 && (-1 : Int) == 1 && items.size == items.size) = true then _ else _) _ _ s
  rw [if_neg (by rw [show ((-1 : Int) == 1) = false by decide, Bool.and_false, Bool.false_and]; exact Bool.false_ne_true), rev_range]
  exact wpAny_bind (m := Builtin.Tuple.tupleExact _) (wpAny_newObj_type (wpAny_pure ⟨_, rfl, wpAny_pure h⟩) hk)
end
theorem rev_tup : RevR X (rRevT X.K) := by
  intro pins s σ H x v vs sl Q I rx hs ps h
  obtain ⟨a, xs, rfl, hx, q⟩ := h
  cases rx
  obtain ⟨its, r, ht, hz⟩ := I.tuple hx
  have hlen : its.toArray.size = xs.length := by rw [List.size_toArray]; exact r.length.symm
  refine ⟨"tuple", _, PyProof.Rows.slot_tuple_getitem.lookup, ht.typeIs, get_tup_rev ht hs ps ?_ (by rw [hlen]; exact hz)⟩
  refine ⟨.ref s.heap.objs.size, _, I.laid (t' := s.toks) (o := .tup xs.reverse) (fun b ob q => Heap.get?_push_of_some _ q) (Nat.le_refl _) ?_, rfl, q _ (I.hok.fresh (Nat.le_refl _))⟩
  exact ⟨by rw [List.length_reverse]; exact hz, _, r.reverse, IsTup.new _ _⟩
theorem rev_str : RevR X rRevS := by
  intro pins s σ H x v vs sl Q I rx hs ps h
  obtain ⟨z, rfl, hz, q⟩ := h
  obtain ⟨t, rfl⟩ := rx
  obtain ⟨os, hos, hcs, hds⟩ := hs
  cases ps with
  | int i t2 =>
    refine ⟨"str", _, F.slot_str_getitem.lookup, typeIs_str _ _ _, ?_⟩
    refine wpAny_getItem_str_slice (l := none) (u := none) (st := some (-1, t2)) ⟨os, hos, hcs, hds⟩ rfl ?_
    show Made.post (if ((-1 : Int) == 1 && (Builtin.Str.strSliceIndices none none (-1) z.length).length == z.length) = true then Made.val (.str z t)
      else Made.str ⟨((Builtin.Str.strSliceIndices none none (-1) z.length).filterMap (z.cps[·]?)).toArray⟩) (EP X pins σ Q) s
    rw [if_neg (by rw [show ((-1 : Int) == 1) = false by decide, Bool.false_and]; exact Bool.false_ne_true)]
    have e : (Builtin.Str.strSliceIndices none none (-1) z.length).filterMap (z.cps[·]?) = z.cps.toList.reverse := by
      have e0 : Builtin.Str.strSliceIndices none none (-1) z.length = sliceRange ((z.length : Int) - 1) (-1) (-1) := rfl
      rw [e0, PySem.W.krv_sliceRange, PySem.W.krv_range, List.filterMap_reverse]
      exact congrArg List.reverse (PySem.W.krv_all z.cps)
    rw [e]
    refine ⟨?_, .str _, H, I.tok _, ⟨_, rfl⟩, q⟩
    show z.cps.toList.reverse.toArray.size ≤ sizeLine
    have : z.cps.size ≤ 1000000 := hz
    rw [sizeLine_eq]
    simp
    omega
def tRev (r : V → Hp → VK → Prop) (te : TE) : TE := fun σ H Q => te σ H fun x H1 => r x H1 Q
theorem pe_rev {r : V → Hp → VK → Prop} {e : Expr} {te : TE} {k : Nat} {p1 p2 p3 pos : Pos} (hr : RevR X r) (he : PE X e te) : PE X (.Subscript e (.Slice none none (some (.UnaryOp .USub (.Constant (.int 1) k p1) p2)) p3) pos) (tRev r te) := by
  refine ⟨fun pins s σ H Q I h => ?_⟩
  refine Subscript_ (thn (he.run pins s σ H _ I h) fun v s1 ⟨x, H1, I1, r1, q1⟩ => ?_)
  have hst : PO X (some (.UnaryOp .USub (.Constant (.int 1) k p1) p2)) (tPart (tUn (rU fun i => .int (-i)) (tC (.int 1)))) := po_some (pe_un un_neg pe_int)
  refine wpAny_Slice (thn (po_none.run pins s1 σ H1 (fun o H2 => o = none ∧ H2 = H1) I1 ⟨rfl, rfl⟩) fun vl s2 ⟨l, H2, I2, pl, el, e2⟩ => ?_)
  subst el e2
  refine thn (po_none.run pins s2 σ H2 (fun o H3 => o = none ∧ H3 = H2) I2 ⟨rfl, rfl⟩) fun vu s3 ⟨u, H3, I3, pu, eu, e3⟩ => ?_
  subst eu e3
  refine thn (hst.run pins s3 σ H3 (fun o H4 => o = some (-1) ∧ H4 = H3) I3 ⟨1, rfl, -1, rfl, rfl, rfl⟩) fun vs s4 ⟨o, H4, I4, ps, eo, e4⟩ => ?_
  subst eo e4
  cases pl
  cases pu
  have I5 : Inv X pins σ H4 { s4 with heap := s4.heap.push { cls := .type "slice", data := .fields #[.none, .none, vs] } } := I4.kept (t' := s4.toks) fun b ob q => Heap.get?_push_of_some _ q
  obtain ⟨T, id, hT, ht, hg⟩ := hr pins _ σ H4 x v vs s4.heap.objs.size Q I5 r1 (Heap.IsSliceOf.new ..) ps q1
  show wpAny (model X.prog X.w) X.A (subscriptTail e (.Slice none none (some (.UnaryOp .USub (.Constant (.int 1) k p1) p2)) p3) v (.ref s4.heap.objs.size)) (EP X pins σ Q) X.xe { s4 with heap := s4.heap.push { cls := .type "slice", data := .fields #[.none, .none, vs] } }
  exact tail_any (ops := [v, .ref s4.heap.objs.size]) ht hT hg (by with_unfolding_all rfl)
end
def fRev : F1 := fun x S => match vw S x with
  | .lst ds => some (.lst ds.reverse, S)
  | .tup ds => some (.tup ds.reverse, S)
  | .str z => if z.length ≤ 1000000 then some (.str ⟨z.cps.toList.reverse.toArray⟩, S) else none
  | _ => none
section
variable {X : Cx} {W : Wsh X.K} {e : Expr} {ma : EM} {k : Nat} {p1 p2 p3 pos : Pos}
theorem em_rev (he : PEm X W e ma) : PEm X W (.Subscript e (.Slice none none (some (.UnaryOp .USub (.Constant (.int 1) k p1) p2)) p3) pos) (mUn fRev ma) :=
  PE.imp (pe_rev (rev_list.or (rev_tup.or rev_str)) he) fun σ H Q h => by
    have hf : UnD X.K (fun x H Q => rRevL X.K x H Q ∨ rRevT X.K x H Q ∨ rRevS x H Q) fRev := fun Z ρ S S' H x dx d Q k i e q => by
      unfold fRev at e
      split at e
      · rename_i es e5
        cases e
        obtain ⟨a, vs, rfl, hl, r⟩ := vw_lst k i e5
        exact .inl ⟨a, vs, rfl, hl, q.lst k r.reverse⟩
      · rename_i es e5
        cases e
        obtain ⟨a, vs, rfl, hl, r⟩ := vw_tup i e5
        exact .inr (.inl ⟨a, vs, rfl, hl, q.tup k r.reverse⟩)
      · rename_i z e5
        obtain ⟨hz, e6⟩ := of_if e
        cases e6
        cases vw_str i e5
        exact .inr (.inr ⟨z, rfl, hz, q.val k (.str _)⟩)
      · cases e
    exact tUn_of hf h
end
/-! ### list(range(..)) -/
def mLRng1 (ma : EM) : EM := fun ds => ma ds >>= fun x => match x with
  | .int n => if n ≤ 1000000 ∧ -1000000 ≤ n then pure (.lst (rngD 0 n.toNat)) else stuck
  | _ => stuck
def mLRng2 (ma mb : EM) : EM := fun ds => ma ds >>= fun x => mb ds >>= fun y => match x, y with
  | .int i, .int j => if i ≤ 1000000 ∧ -1000000 ≤ i ∧ j ≤ 1000000 ∧ -1000000 ≤ j then pure (.lst (rngD i (j - i).toNat)) else stuck
  | _, _ => stuck
theorem rg_all {K : PySem.W.Frag} {Z ρ : List Addr} {H : Hp} (a b : Int) : IsAll K Z ρ H (rgV a b) (rngD a (b - a).toNat) := by
  have e1 : rgV a b = ((List.range (b - a).toNat).map fun (i : Nat) => a + (i : Int)).map V.int := by
    unfold rgV
    rw [List.map_map]; rfl
  have e2 : rngD a (b - a).toNat = ((List.range (b - a).toNat).map fun (i : Nat) => a + (i : Int)).map D.int := by
    unfold rngD
    rw [List.map_map]; rfl
  rw [e1, e2]
  exact IsAll.ints _
section
variable {X : Cx} {W : Wsh X.K} {a b e e2 : Expr} {ma mb : EM} {ms : AM} {p p2 pos pos2 tpos : Pos} {elts : List Expr} {kk : Nat}
theorem em_lrng1 (hc : X.calm = true) (hg : Gl X "list") (hm : X.mg "list" = none) (hg2 : Gl X "range") (hm2 : X.mg "range" = none) (ha : PEm X W a ma) (na : starEach [a] X.env = (false, eval a X.env) :: starEach [] X.env := by rfl)
    (nb : starEach [.Call (.Name "range" p2) [a] [] pos2] X.env = (false, eval (.Call (.Name "range" p2) [a] [] pos2) X.env) :: starEach [] X.env := by rfl) : PEm X W (.Call (.Name "list" p) [.Call (.Name "range" p2) [a] [] pos2] [] pos) (mLRng1 ma) :=
  PE.imp (pe_listRg hc hg hm (prg_1 hg2 hm2 ha na) nb) fun σ H Q ⟨Z, ρ, S, ds, t, h⟩ => tE_bind t h fun d S1 ρ1 H1 v e1 t1 i q => by
    cases i with
    | int n =>
      by_cases hn : n ≤ 1000000 ∧ -1000000 ≤ n
      · simp only [if_pos hn] at q
        refine ⟨n, rfl, ⟨by omega, by omega, by omega, by omega, by omega⟩, ?_⟩
        have r := rg_all (K := X.K) (Z := Z) (ρ := ρ1) (H := H1) 0 n
        rw [Int.sub_zero] at r
        exact ((MP.pure q : Pt _ _ _ _ _ _ _).up e1).lst t1.ok r
      · simp only [if_neg hn] at q; exact q.elim
    | _ => exact q.elim
theorem em_lrng2 (hc : X.calm = true) (hg : Gl X "list") (hm : X.mg "list" = none) (hg2 : Gl X "range") (hm2 : X.mg "range" = none) (ha : PEm X W a ma) (hb : PEm X W b mb) (na : starEach [a, b] X.env = (false, eval a X.env) :: starEach [b] X.env := by rfl)
    (na2 : starEach [b] X.env = (false, eval b X.env) :: starEach [] X.env := by rfl) (hp : (backTo pos2 (starEach [b] X.env)).any (·.1) = false := by rfl)
    (nb : starEach [.Call (.Name "range" p2) [a, b] [] pos2] X.env = (false, eval (.Call (.Name "range" p2) [a, b] [] pos2) X.env) :: starEach [] X.env := by rfl) : PEm X W (.Call (.Name "list" p) [.Call (.Name "range" p2) [a, b] [] pos2] [] pos) (mLRng2 ma mb) :=
  PE.imp (pe_listRg hc hg hm (prg_2 hg2 hm2 ha hb na na2 hp) nb) fun σ H Q ⟨Z, ρ, S, ds, t, h⟩ => tE_bind t h fun d S1 ρ1 H1 v e1 t1 i q => tE_bind t1 q fun d2 S2 ρ2 H2 v2 e2 t2 i2 q2 => by
    cases i with
    | int n =>
      cases i2 with
      | int l =>
        by_cases hn : n ≤ 1000000 ∧ -1000000 ≤ n ∧ l ≤ 1000000 ∧ -1000000 ≤ l
        · simp only [if_pos hn] at q2
          exact ⟨n, l, rfl, rfl, ⟨by omega, by omega, by omega, by omega, by omega⟩, ((MP.pure q2 : Pt _ _ _ _ _ _ _).up (e1.trans e2)).lst t2.ok (rg_all n l)⟩
        · simp only [if_neg hn] at q2; exact q2.elim
      | _ => exact q2.elim
    | _ => exact q2.elim
/-! ### zip, enumerate -/
theorem src_zipL {K : PySem.W.Frag} (a b : Addr) (xs ys : List D) : Src K (Itz K a b) (xs.zipWith (fun x y => .tup [x, y]) ys) fun Z ρ H => Is K Z ρ H (.ref a) (.lst xs) ∧ Is K Z ρ H (.ref b) (.lst ys) where
  go := fun i Z ρ S H hi g k => by
    obtain ⟨g1, g2⟩ := g
    rw [List.length_zipWith] at hi
    cases g1 with
    | lst h r =>
      cases g2 with
      | lst h2 r2 =>
        obtain ⟨v, e, _⟩ := r.get (List.getElem?_eq_getElem (show i < xs.length by omega))
        obtain ⟨v2, e2, _⟩ := r2.get (List.getElem?_eq_getElem (show i < ys.length by omega))
        exact ⟨_, _, v, v2, h.seq, h2.seq, e, e2⟩
  stop := fun Z ρ S H g k => by
    obtain ⟨g1, g2⟩ := g
    cases g1 with
    | lst h r =>
      cases g2 with
      | lst h2 r2 => exact ⟨_, _, h.seq, h2.seq, by rw [List.length_zipWith, r.length, r2.length]; omega⟩
  yld := fun i d Z ρ S H x H' e g k y => by
    obtain ⟨g1, g2⟩ := g
    obtain ⟨T, x1, y1, rfl, hT, rfl, q1, q2⟩ := y
    cases g1 with
    | lst h r =>
      cases g2 with
      | lst h2 r2 =>
        rw [List.getElem?_zipWith] at e
        split at e
        · rename_i u w eu ew
          cases e
          obtain ⟨v, e3, iv⟩ := r.get eu
          obtain ⟨v2, e4, iv2⟩ := r2.get ew
          have z1 := q1 _ h.seq
          have z2 := q2 _ h2.seq
          rw [e3] at z1; rw [e4] at z2
          cases z1; cases z2
          exact ⟨ext_new hT, k.new hT, new_tup k hT (.cons iv (.cons iv2 .nil))⟩
        · cases e
  keep := fun Z Y ρ S H ρ' H' g k e => ⟨g.1.monoZ k e, g.2.monoZ k e⟩
  zw := fun Z ρ S H p vs o g k hp hl => ⟨g.1.zw k hp hl trivial, g.2.zw k hp hl trivial⟩
  addZ := fun Z ρ H p g hp => ⟨g.1.addZ hp, g.2.addZ hp⟩
theorem src_zipT {K : PySem.W.Frag} (a b : Addr) (xs ys : List D) : Src K (RZ.ItzT K a b) (xs.zipWith (fun x y => .tup [x, y]) ys) fun Z ρ H => Is K Z ρ H (.ref a) (.tup xs) ∧ Is K Z ρ H (.ref b) (.tup ys) where
  go := fun i Z ρ S H hi g k => by
    obtain ⟨g1, g2⟩ := g
    rw [List.length_zipWith] at hi
    cases g1 with
    | tup h r =>
      cases g2 with
      | tup h2 r2 =>
        obtain ⟨v, e, _⟩ := r.get (List.getElem?_eq_getElem (show i < xs.length by omega))
        obtain ⟨v2, e2, _⟩ := r2.get (List.getElem?_eq_getElem (show i < ys.length by omega))
        exact ⟨_, _, v, v2, h, h2, e, e2⟩
  stop := fun Z ρ S H g k => by
    obtain ⟨g1, g2⟩ := g
    cases g1 with
    | tup h r =>
      cases g2 with
      | tup h2 r2 => exact ⟨_, _, h, h2, by rw [List.length_zipWith, r.length, r2.length]; omega⟩
  yld := fun i d Z ρ S H x H' e g k y => by
    obtain ⟨g1, g2⟩ := g
    obtain ⟨T, x1, y1, rfl, hT, rfl, q1, q2⟩ := y
    cases g1 with
    | tup h r =>
      cases g2 with
      | tup h2 r2 =>
        rw [List.getElem?_zipWith] at e
        split at e
        · rename_i u w eu ew
          cases e
          obtain ⟨v, e3, iv⟩ := r.get eu
          obtain ⟨v2, e4, iv2⟩ := r2.get ew
          have z1 := q1 _ h
          have z2 := q2 _ h2
          rw [e3] at z1; rw [e4] at z2
          cases z1; cases z2
          exact ⟨ext_new hT, k.new hT, new_tup k hT (.cons iv (.cons iv2 .nil))⟩
        · cases e
  keep := fun Z Y ρ S H ρ' H' g k e => ⟨g.1.monoZ k e, g.2.monoZ k e⟩
  zw := fun Z ρ S H p vs o g k hp hl => ⟨g.1.zw k hp hl trivial, g.2.zw k hp hl trivial⟩
  addZ := fun Z ρ H p g hp => ⟨g.1.addZ hp, g.2.addZ hp⟩
def mZip (ms : AM) : IM := fun ds => ms ds >>= fun xs => match xs with
  | [.lst us, .lst vs] => pure (us.zipWith (fun x y => .tup [x, y]) vs)
  | [.tup us, .tup vs] => pure (us.zipWith (fun x y => .tup [x, y]) vs)
  | _ => stuck
theorem im_zip (hg : Gl X "zip") (hm : X.mg "zip" = none) (ha : PAm X W [e, e2] ms)
    (hs : starEach [e, e2] X.env = (false, eval e X.env) :: starEach [e2] X.env := by rfl) (hpl : (backTo pos (starEach [e2] X.env)).any (·.1) = false := by rfl) :
    PIm X W (.Tuple elts kk tpos) (.Call (.Name "zip" p) [e, e2] [] pos) (mZip ms) :=
  PI.imp (RZ.pi_zipA hg hm ha hs hpl) fun σ H R ⟨Z, ρ, S, ds, t, h⟩ => tA_bind t h fun xs S1 ρ1 H1 vs e1 t1 i q => by
    split at q
    · obtain ⟨v, w, rfl, iv, iw⟩ := is2 i
      cases iv with
      | @lst a us _ h1 r1 =>
        cases iw with
        | @lst b ws _ h2 r2 => exact ⟨a, b, us, ws, rfl, .inl ⟨h1.seq, h2.seq, (MP.pure q) ρ1 H1 _ _ e1 t1.ok (src_zipL a b _ _) ⟨.lst h1 r1, .lst h2 r2⟩⟩⟩
    · obtain ⟨v, w, rfl, iv, iw⟩ := is2 i
      cases iv with
      | @tup a us _ h1 r1 =>
        cases iw with
        | @tup b ws _ h2 r2 => exact ⟨a, b, us, ws, rfl, .inr ⟨h1, h2, (MP.pure q) ρ1 H1 _ _ e1 t1.ok (src_zipT a b _ _) ⟨.tup h1 r1, .tup h2 r2⟩⟩⟩
    · exact q.elim
def enumD (i : Nat) : List D → List D
  | [] => []
  | x :: xs => .tup [.int i, x] :: enumD (i + 1) xs
theorem enumD_length : ∀ (xs : List D) (i : Nat), (enumD i xs).length = xs.length
  | [], _ => rfl
  | _ :: xs, i => congrArg (· + 1) (enumD_length xs (i + 1))
theorem enumD_get : ∀ (xs : List D) (i j : Nat), (enumD i xs)[j]? = xs[j]?.map fun x => .tup [.int ((i + j : Nat) : Int), x]
  | [], _, _ => by simp [enumD]
  | x :: xs, i, 0 => by simp [enumD]
  | x :: xs, i, j + 1 => by
    show (enumD (i + 1) xs)[j]? = _
    rw [enumD_get xs (i + 1) j, List.getElem?_cons_succ, show i + 1 + j = i + (j + 1) by omega]
theorem src_enum {K : PySem.W.Frag} (a : Addr) (xs : List D) : Src K (Ite K a) (enumD 0 xs) fun Z ρ H => Is K Z ρ H (.ref a) (.lst xs) where
  go := fun i Z ρ S H hi g k => by
    rw [enumD_length] at hi
    cases g with
    | lst h r =>
      obtain ⟨v, e, _⟩ := r.get (List.getElem?_eq_getElem hi)
      exact ⟨_, v, h.seq, e⟩
  stop := fun Z ρ S H g k => by
    cases g with
    | lst h r => exact ⟨_, h.seq, by rw [enumD_length, r.length]; exact Nat.le_refl _⟩
  yld := fun i d Z ρ S H x H' e g k y => by
    obtain ⟨T, x1, rfl, hT, rfl, q1⟩ := y
    rw [enumD_get, Nat.zero_add] at e
    cases g with
    | lst h r =>
      obtain ⟨u, e1, rfl⟩ := mapS e
      obtain ⟨v, e3, iv⟩ := r.get e1
      have z1 := q1 _ h.seq
      rw [e3] at z1
      cases z1
      exact ⟨ext_new hT, k.new hT, new_tup k hT (.cons (.int _) (.cons iv .nil))⟩
  keep := fun Z Y ρ S H ρ' H' g k e => g.monoZ k e
  zw := fun Z ρ S H p vs o g k hp hl => g.zw k hp hl trivial
  addZ := fun Z ρ H p g hp => g.addZ hp
def mEnum (ms : AM) : IM := fun ds => ms ds >>= fun xs => match xs with
  | [.lst us] => pure (enumD 0 us)
  | _ => stuck
theorem im_enum (hg : Gl X "enumerate") (hm : X.mg "enumerate" = none) (ha : PAm X W [e] ms) (hs : starEach [e] X.env = [(false, eval e X.env)] := by rfl) :
    PIm X W (.Tuple elts kk tpos) (.Call (.Name "enumerate" p) [e] [] pos) (mEnum ms) :=
  PI.imp (pi_enum hg hm ha hs) fun σ H R ⟨Z, ρ, S, ds, t, h⟩ => tA_bind t h fun xs S1 ρ1 H1 vs e1 t1 i q => by
    split at q
    · obtain ⟨v, rfl, iv⟩ := is1 i
      cases iv with
      | @lst a us _ h1 r1 => exact ⟨a, us, rfl, h1.seq, (MP.pure q) ρ1 H1 _ _ e1 t1.ok (src_enum a _) (.lst h1 r1)⟩
    · exact q.elim
/-! ### the module's constants -/
theorem em_globS {x : Str} {z : Str} {tk : Tok} (hg : Gl X x) (hm : X.mg x = some (.str z tk)) (hd : (x == ("__debug__" : Str)) = false := by decide) : PEm X W (.Name x p) (fun _ => pure (.str z)) :=
  em_const (v := .str z) (pe_glob hg hm ⟨tk, rfl⟩ hd) fun _ _ _ => .str z
theorem em_globI {x : Str} {z : Int} {tk : Tok} (hg : Gl X x) (hm : X.mg x = some (.int z tk)) (hd : (x == ("__debug__" : Str)) = false := by decide) : PEm X W (.Name x p) (fun _ => pure (.int z)) :=
  em_const (v := .int z) (pe_glob hg hm ⟨tk, rfl⟩ hd) fun _ _ _ => .int z
end
end Pv

/-! Pv16: short words for terms. -/
noncomputable section
namespace Pv
open PySem PySem.Spec PyProof.Rows L2
def mK (d : D) : EM := fun _ => pure d
noncomputable def mV (i : Nat) : EM := fun ds S => Option.rec (motive := fun _ => R D) .no (fun d => .ok d S) (slot ds i)
theorem mV_eq (i : Nat) : mV i = fun ds => M.of (ds[i]?.join) := by
  funext ds S
  show Option.rec (motive := fun _ => R D) .no (fun d => .ok d S) (slot ds i) = _
  rw [slot_eq]
  cases ds[i]?.join <;> rfl
section
variable {X : Cx} {W : Wsh X.K} {e e2 : Expr} {es : List Expr} {ma mb : EM} {ms : AM} {pos p : Pos} {j : Nat}
theorem x_int {i : Int} {q : Nat} : PEm X W (.Constant (.int i) q pos) (mK (.int i)) := em_const (v := .int i) pe_int fun _ _ _ => .int i
theorem x_str {z : Str} {q : Nat} : PEm X W (.Constant (.str z) q pos) (mK (.str z)) := em_const (v := .str z) pe_str fun _ _ _ => .str z
theorem x_none {q : Nat} : PEm X W (.Constant .none q pos) (mK .non) := em_const (v := .non) pe_non fun _ _ _ => .non
theorem x_bool {b : Bool} {q : Nat} : PEm X W (.Constant (.bool b) q pos) (mK (.bl b)) := em_const (v := .bl b) pe_bl fun _ _ _ => .bl b
theorem x_v (i : Nat) {x : Str} (hN : X.N[i]? = some x := by rfl) (hv : Vis X.env.scope x := by first | exact Or.inl rfl | exact Or.inr (Or.inl rfl) | exact Or.inr (Or.inr rfl)) (hd : (x == ("__debug__" : Str)) = false := by decide)
    (hcd : (x == ("__classdict__" : Str)) = false := by decide) : PEm X W (.Name x p) (mV i) := by rw [mV_eq]; exact em_var (pe_var hN hv hd hcd)
theorem x_gS {x z : Str} {tk : Tok} (hm : X.mg x = some (.str z tk)) (hg : Gl X x := by rfl) (hd : (x == ("__debug__" : Str)) = false := by decide) : PEm X W (.Name x p) (mK (.str z)) := em_globS hg hm hd
theorem x_gI {x : Str} {z : Int} {tk : Tok} (hm : X.mg x = some (.int z tk)) (hg : Gl X x := by rfl) (hd : (x == ("__debug__" : Str)) = false := by decide) : PEm X W (.Name x p) (mK (.int z)) := em_globI hg hm hd
/-- a built-in type by its name -/
theorem x_ty {x : Str} {T : String} (hm : X.mg x = none) (hg : Gl X x := by rfl) (hv : bootBuiltins x = some (.type T) := by rfl) (hn : x ≠ "__name__" := by decide) (hd : (x == ("__debug__" : Str)) = false := by decide) : PEm X W (.Name x p) (mK (.ty T)) :=
  em_const (v := .ty T) (pe_bltn hg hm hv rfl hn hd) fun _ _ _ => .ty T
section ops
variable {a b : Expr}
theorem x_add (ha : PEm X W a ma) (hb : PEm X W b mb) : PEm X W (.BinOp a .Add b pos) (mBin fAdd ma mb) := em_op or_add (od_add _) ha hb
theorem x_sub (ha : PEm X W a ma) (hb : PEm X W b mb) : PEm X W (.BinOp a .Sub b pos) (mBin fSub ma mb) := em_op op_sub (od_sub _) ha hb
theorem x_mul (ha : PEm X W a ma) (hb : PEm X W b mb) : PEm X W (.BinOp a .Mult b pos) (mBin fMul ma mb) := em_op or_mul (od_mul _) ha hb
theorem x_mod (ha : PEm X W a ma) (hb : PEm X W b mb) : PEm X W (.BinOp a .Mod b pos) (mBin fMod ma mb) := em_op op_mod (od_mod _) ha hb
theorem x_div (ha : PEm X W a ma) (hb : PEm X W b mb) : PEm X W (.BinOp a .FloorDiv b pos) (mBin fDiv ma mb) := em_op op_fdiv (od_div _) ha hb
theorem x_pow (ha : PEm X W a ma) (hb : PEm X W b mb) : PEm X W (.BinOp a .Pow b pos) (mBin fPow ma mb) := em_op op_powW (od_pow _) ha hb
theorem x_neg (ha : PEm X W a ma) : PEm X W (.UnaryOp .USub a pos) (mUn fNeg ma) := em_un un_neg (od_neg _) ha
/-- the comparisons: a rule, what it does on data -/
structure Cmp (X : Cx) (op : CmpOp) (f : F2) : Prop where
  ex : ∃ r, OpR X (compareOp op) r ∧ OpD X.K r f
theorem Fit.u65 (ft : Fit X j) : X.A.units + 65 < cLine := by have := ft.room.un; omega
theorem c_eq (ft : Fit X j) : Cmp X .Eq fEq := ⟨_, or_eq ft.room.units, od_eq _⟩
theorem c_ne (ft : Fit X j) : Cmp X .NotEq fNe := ⟨_, or_ne ft.room.units, od_ne _⟩
theorem c_lt : Cmp X .Lt fLt := ⟨_, or_lt, od_lt _⟩
theorem c_le : Cmp X .LtE fLe := ⟨_, or_le, od_le _⟩
theorem c_gt : Cmp X .Gt fGt := ⟨_, or_gt, od_gt _⟩
theorem c_ge : Cmp X .GtE fGe := ⟨_, op_ge, od_ge _⟩
theorem c_in (ft : Fit X j) : Cmp X .In fIn := ⟨_, or_in ft.u65, od_in _⟩
theorem c_notIn (ft : Fit X j) : Cmp X .NotIn fNotIn := ⟨_, or_notIn ft.u65, od_notIn _⟩
theorem c_is : Cmp X .Is fIs := ⟨_, or_is, od_is _⟩
theorem c_isNot : Cmp X .IsNot fIsNot := ⟨_, or_isNot, od_isNot _⟩
theorem x_cmp {op : CmpOp} {f : F2} (c : Cmp X op f) (ha : PEm X W a ma) (hb : PEm X W b mb) (hm : behindInMarks op b = false) : PEm X W (.Compare a [op] [b] pos) (mBin f ma mb) :=
  let ⟨_, h1, h2⟩ := c.ex
  em_cmp h1 h2 ha hb hm
theorem t_cmp {op : CmpOp} {f : F2} (c : Cmp X op f) (ha : PEm X W a ma) (hb : PEm X W b mb) (hm : behindInMarks op b = false) : PTm X W (.Compare a [op] [b] pos) (mBool (mBin f ma mb)) :=
  let ⟨_, h1, h2⟩ := c.ex
  tm_cmp h1 h2 ha hb hm
variable {c : Expr} {mc : EM}
theorem x_chain {op op' : CmpOp} {f g : F2} (h : Cmp X op f) (h' : Cmp X op' g) (ha : PEm X W a ma) (hb : PEm X W b mb) (hc : PEm X W c mc) (hm : lastMarks [op, op'] [b, c] = false) : PEm X W (.Compare a [op, op'] [b, c] pos) (mChain f g ma mb mc) :=
  let ⟨_, h1, h2⟩ := h.ex
  let ⟨_, h3, h4⟩ := h'.ex
  em_chain h1 h3 h2 h4 ha hb hc hm
theorem t_chain {op op' : CmpOp} {f g : F2} (h : Cmp X op f) (h' : Cmp X op' g) (ha : PEm X W a ma) (hb : PEm X W b mb) (hc : PEm X W c mc) (hm : lastMarks [op, op'] [b, c] = false) : PTm X W (.Compare a [op, op'] [b, c] pos) (mBool (mChain f g ma mb mc)) :=
  let ⟨_, h1, h2⟩ := h.ex
  let ⟨_, h3, h4⟩ := h'.ex
  tm_chain h1 h3 h2 h4 ha hb hc hm
end ops
/-! ### built-in functions by name -/
/-- one that is a function | a type, what it does on data -/
structure Blt (X : Cx) (x : Str) (f : FA) : Prop where
  ex : X.mg x = none ∧ x ≠ "__name__" ∧ (x == ("__debug__" : Str)) = false ∧ ∃ r, CallD X.K r f ∧ ((∃ id, bootBuiltins x = some (.builtin id) ∧ CallR X (.builtin id) r) ∨ (∃ T, bootBuiltins x = some (.type T) ∧ CallR X (.type T) r))
theorem x_blt {x : Str} {f : FA} (b : Blt X x f) (ha : PAm X W (e :: es) ms) (hg : Gl X x := by rfl) (he : starEach (e :: es) X.env = (false, eval e X.env) :: starEach es X.env := by rfl)
    (hpl : (backTo pos (starEach es X.env)).any (·.1) = false := by rfl) : PEm X W (.Call (.Name x p) (e :: es) [] pos) (mCall f ms) := by
  obtain ⟨hm, hn, hd, r, hf, ⟨id, hv, hc⟩ | ⟨T, hv, hc⟩⟩ := b.ex
  · exact PE.imp (pe_callB hc hg hm hv ha hn hd he hpl) fun σ H Q h => tCB_of hf h
  · exact PE.imp (pe_callTy hc hg hm hv ha hn hd he hpl) fun σ H Q h => tCB_of hf h
theorem b_len (hm : X.mg "len" = none) : Blt X "len" fLen := ⟨hm, by decide, by decide, _, cd_len _, .inl ⟨_, rfl, call_len⟩⟩
theorem b_abs (hm : X.mg "abs" = none) : Blt X "abs" fAbs := ⟨hm, by decide, by decide, _, cd_abs _, .inl ⟨_, rfl, call_abs⟩⟩
theorem b_int (hm : X.mg "int" = none) : Blt X "int" fInt := ⟨hm, by decide, by decide, _, cd_int _, .inr ⟨_, rfl, call_int1⟩⟩
theorem b_sum (hm : X.mg "sum" = none) (hc : X.calm = true := by rfl) : Blt X "sum" fSum := ⟨hm, by decide, by decide, _, cd_sum _, .inl ⟨_, rfl, cr_sum hc⟩⟩
theorem b_all (hm : X.mg "all" = none) (hc : X.calm = true := by rfl) : Blt X "all" fAll := ⟨hm, by decide, by decide, _, cd_all _, .inl ⟨_, rfl, cr_all hc⟩⟩
theorem b_any (hm : X.mg "any" = none) (hc : X.calm = true := by rfl) : Blt X "any" fAny := ⟨hm, by decide, by decide, _, cd_any _, .inl ⟨_, rfl, cr_any hc⟩⟩
theorem b_min (hm : X.mg "min" = none) (hc : X.calm = true := by rfl) : Blt X "min" fMin := ⟨hm, by decide, by decide, _, cd_min _, .inl ⟨_, rfl, cr_minA hc⟩⟩
theorem b_max (hm : X.mg "max" = none) (hc : X.calm = true := by rfl) : Blt X "max" fMax := ⟨hm, by decide, by decide, _, cd_max _, .inl ⟨_, rfl, cr_maxA hc⟩⟩
theorem b_sorted (hm : X.mg "sorted" = none) : Blt X "sorted" fSorted := ⟨hm, by decide, by decide, _, cd_sorted _, .inl ⟨_, rfl, cr_sortedI⟩⟩
theorem b_list (hm : X.mg "list" = none) : Blt X "list" fList := ⟨hm, by decide, by decide, _, cd_list _, .inr ⟨_, rfl, call_list_of⟩⟩
theorem b_listC (hm : X.mg "list" = none) : Blt X "list" fListC := ⟨hm, by decide, by decide, _, cd_listC _, .inr ⟨_, rfl, call_list_of⟩⟩
theorem b_tuple (hm : X.mg "tuple" = none) : Blt X "tuple" fTuple := ⟨hm, by decide, by decide, _, cd_tuple _, .inr ⟨_, rfl, call_tuple_of⟩⟩
theorem b_isinstance (hm : X.mg "isinstance" = none) : Blt X "isinstance" fIsi := ⟨hm, by decide, by decide, _, cd_isi _, .inl ⟨_, rfl, call_isi⟩⟩
theorem b_repr (ft : Fit X j) (hm : X.mg "repr" = none) : Blt X "repr" fRepr := ⟨hm, by decide, by decide, _, cd_repr _, .inl ⟨_, rfl, cr_repr ft.grd ft.room.units⟩⟩
theorem b_str (hm : X.mg "str" = none) : Blt X "str" fStr := ⟨hm, by decide, by decide, _, cd_str _, .inr ⟨_, rfl, cr_str⟩⟩
end
end Pv
end

/-! Pv17: how the functions on data are reckoned: backward rules. -/
namespace Pv
open PySem PySem.Spec PyProof.Rows L2
/-- it ends well, in P -/
def Ev {α : Type} (r : R α) (P : α → Sto → Prop) : Prop := match r with
  | .ok a S => P a S
  | _ => False
def Sat (o : Option (D × Sto)) (P : D → Sto → Prop) : Prop := match o with
  | some (d, S) => P d S
  | none => False
section
variable {α β : Type} {S S1 S2 : Sto} {P Q : α → Sto → Prop} {ds : En} {x y d : D} {xs : List D}
theorem Ev.of {r : R α} {a : α} (e : r = .ok a S) (h : P a S) : Ev r P := by rw [e]; exact h
theorem Ev.eq {r : R α} (h : Ev r P) : ∃ a S, r = .ok a S ∧ P a S := by
  cases r with
  | ok a S => exact ⟨a, S, rfl, h⟩
  | exc _ _ _ => exact h.elim
  | no => exact h.elim
theorem Ev.imp {r : R α} (h : Ev r P) (i : ∀ a S, P a S → Q a S) : Ev r Q := by
  obtain ⟨a, S, rfl, p⟩ := h.eq
  exact i a S p
theorem ev_bind {m : M α} {f : α → M β} {P : β → Sto → Prop} (h : Ev (m S) fun a S1 => Ev (f a S1) P) : Ev ((m >>= f) S) P := by
  obtain ⟨a, S1, e, h2⟩ := h.eq
  show Ev (M.bind m f S) P
  unfold M.bind
  rw [e]
  exact h2
theorem ev_pure {a : α} (h : P a S) : Ev ((pure a : M α) S) P := h
theorem ev_of {o : Option α} {a : α} (e : o = some a) (h : P a S) : Ev (M.of o S) P := by rw [e]; exact h
theorem ev_lift {f : Sto → Option (D × Sto)} {P : D → Sto → Prop} (h : Sat (f S) P) : Ev (M.lift f S) P := by
  unfold M.lift
  cases e : f S with
  | none => rw [e] at h; exact h.elim
  | some p => obtain ⟨a, S'⟩ := p; rw [e] at h; exact h
theorem ev_cl {m : M α} (h : Ev (m S) P) : Ev (M.cl m S) P := by
  obtain ⟨a, S1, e, p⟩ := h.eq
  unfold M.cl
  rw [e]
  exact p
theorem ev_tr {m : M α} {k : α → M Fl} {P : Fl → Sto → Prop} (h : Ev (m S) fun a S1 => Ev (k a S1) P) : Ev (M.tr m ds k S) P := by
  obtain ⟨a, S1, e, p⟩ := h.eq
  unfold M.tr
  rw [e]
  exact p
/-! ### expressions -/
variable {ma mb mc : EM} {mt mu : TM} {ms mk : AM} {P : D → Sto → Prop} {T : Bool → Sto → Prop} {L : List D → Sto → Prop}
theorem ev_K (h : P d S) : Ev (mK d ds S) P := h
theorem ev_V {i : Nat} (e : ds[i]?.join = some d) (h : P d S) : Ev (mV i ds S) P := by rw [mV_eq]; exact ev_of e h
theorem ev_bin {f : F2} (h : Ev (ma ds S) fun x S1 => Ev (mb ds S1) fun y S2 => Sat (f x y S2) P) : Ev (mBin f ma mb ds S) P :=
  ev_bind (h.imp fun x S1 h => ev_bind (h.imp fun y S2 h => ev_lift h))
theorem ev_un {f : F1} (h : Ev (ma ds S) fun x S1 => Sat (f x S1) P) : Ev (mUn f ma ds S) P := ev_bind (h.imp fun x S1 h => ev_lift h)
theorem ev_nil (h : L [] S) : Ev (mNil ds S) L := h
theorem ev_cons (h : Ev (ma ds S) fun x S1 => Ev (ms ds S1) fun xs S2 => L (x :: xs) S2) : Ev (mCons ma ms ds S) L :=
  ev_bind (h.imp fun x S1 h => ev_bind (h.imp fun xs S2 h => h))
theorem ev_call {f : FA} (h : Ev (ms ds S) fun xs S1 => Sat (f xs S1) P) : Ev (mCall f ms ds S) P := ev_bind (h.imp fun x S1 h => ev_lift h)
theorem ev_app {n : Nat} {m : DM} (h : Ev (ms ds S) fun xs S1 => xs.length = n ∧ Ev (m xs S1) P) : Ev (mApp n ms m ds S) P :=
  ev_bind (h.imp fun xs S1 h => by rw [if_pos h.1]; exact ev_cl h.2)
theorem ev_appK {n1 n2 : Nat} {pr : List Nat} {m : DM} (h : Ev (ms ds S) fun xs S1 => Ev (mk ds S1) fun ys S2 => (xs.length = n1 ∧ ys.length = n2) ∧ Ev (m (pick pr (xs ++ ys)) S2) P) : Ev (mAppK n1 n2 pr ms mk m ds S) P :=
  ev_bind (h.imp fun xs S1 h => ev_bind (h.imp fun ys S2 h => by rw [if_pos h.1]; exact ev_cl h.2))
theorem ev_tup (h : Ev (ms ds S) fun xs S1 => xs.length ≤ 1000000 ∧ P (.tup xs) S1) : Ev (mTup ms ds S) P := ev_bind (h.imp fun xs S1 h => ev_of (if_pos h.1) h.2)
theorem ev_lst (h : Ev (ms ds S) fun xs S1 => xs.length ≤ 1000000 ∧ P (.lst xs) S1) : Ev (mLst ms ds S) P := ev_bind (h.imp fun xs S1 h => ev_of (if_pos h.1) h.2)
theorem ev_cell (h : Ev (ms ds S) fun xs S1 => xs.length ≤ 1000000 ∧ P (.cell S1.length) (S1 ++ [.lst xs])) : Ev (mCell ms ds S) P := ev_bind (h.imp fun xs S1 h => ev_lift (by unfold newCell; rw [if_pos h.1]; exact h.2))
theorem ev_bool (h : Ev (ma ds S) fun x S1 => ∃ b, x = .bl b ∧ T b S1) : Ev (mBool ma ds S) T := ev_bind (h.imp fun x S1 ⟨b, e, h⟩ => by subst e; exact h)
theorem ev_if (h : Ev (mt ds S) fun b S1 => (b = true → Ev (ma ds S1) P) ∧ (b = false → Ev (mb ds S1) P)) : Ev (mIf mt ma mb ds S) P :=
  ev_bind (h.imp fun b S1 h => by
    cases b with
    | true => rw [if_pos rfl]; exact h.1 rfl
    | false => rw [if_neg Bool.false_ne_true]; exact h.2 rfl)
theorem ev_and (h : Ev (mt ds S) fun b S1 => (b = true → Ev (mu ds S1) T) ∧ (b = false → T false S1)) : Ev (mAnd mt mu ds S) T :=
  ev_bind (h.imp fun b S1 h => by
    cases b with
    | true => rw [if_pos rfl]; exact h.1 rfl
    | false => rw [if_neg Bool.false_ne_true]; exact h.2 rfl)
theorem ev_or (h : Ev (mt ds S) fun b S1 => (b = true → T true S1) ∧ (b = false → Ev (mu ds S1) T)) : Ev (mOr mt mu ds S) T :=
  ev_bind (h.imp fun b S1 h => by
    cases b with
    | true => rw [if_pos rfl]; exact h.1 rfl
    | false => rw [if_neg Bool.false_ne_true]; exact h.2 rfl)
theorem ev_not (h : Ev (mt ds S) fun b S1 => T (!b) S1) : Ev (mNot mt ds S) T := ev_bind (h.imp fun b S1 h => h)
theorem ev_andV (h : Ev (ma ds S) fun x S1 => ∃ b, x = .bl b ∧ (b = true → Ev (mb ds S1) P) ∧ (b = false → P (.bl false) S1)) : Ev (mAndV ma mb ds S) P :=
  ev_bind (ev_bool (h.imp fun x S1 ⟨b, e, h1, h2⟩ => ⟨b, e, by
    cases b with
    | true => rw [if_pos rfl]; exact h1 rfl
    | false => rw [if_neg Bool.false_ne_true]; exact h2 rfl⟩))
theorem ev_orV (h : Ev (ma ds S) fun x S1 => ∃ b, x = .bl b ∧ (b = true → P (.bl true) S1) ∧ (b = false → Ev (mb ds S1) P)) : Ev (mOrV ma mb ds S) P :=
  ev_bind (ev_bool (h.imp fun x S1 ⟨b, e, h1, h2⟩ => ⟨b, e, by
    cases b with
    | true => rw [if_pos rfl]; exact h1 rfl
    | false => rw [if_neg Bool.false_ne_true]; exact h2 rfl⟩))
theorem ev_notV (h : Ev (ma ds S) fun x S1 => ∃ b, x = .bl b ∧ P (.bl (!b)) S1) : Ev (mNotV ma ds S) P := ev_bind (ev_bool (h.imp fun x S1 ⟨b, e, h1⟩ => ⟨b, e, h1⟩))
theorem ev_chain {f g : F2} (h : Ev (ma ds S) fun x S1 => Ev (mb ds S1) fun y S2 => Sat (f x y S2) fun z S3 => ∃ b, z = .bl b ∧ (b = true → Ev (mc ds S3) fun w S4 => Sat (g y w S4) P) ∧ (b = false → P (.bl false) S3)) :
    Ev (mChain f g ma mb mc ds S) P :=
  ev_bind (h.imp fun x S1 h => ev_bind (h.imp fun y S2 h => ev_bind (ev_lift (by
    cases e : f x y S2 with
    | none => rw [e] at h; exact h
    | some p =>
      obtain ⟨z, S3⟩ := p
      rw [e] at h
      obtain ⟨b, e2, h1, h2⟩ := h
      subst e2
      cases b with
      | true => exact ev_bind ((h1 rfl).imp fun w S4 h => ev_lift h)
      | false => exact h2 rfl))))
theorem ev_sl {ml mh : OM} (h : Ev (ma ds S) fun x S1 => Ev (ml ds S1) fun l S2 => Ev (mh ds S2) fun u S3 => Sat (fSl l u x S3) P) : Ev (mSl ma ml mh ds S) P :=
  ev_bind (h.imp fun x S1 h => ev_bind (h.imp fun l S2 h => ev_bind (h.imp fun u S3 h => ev_lift h)))
theorem ev_noPart {O : Option Int → Sto → Prop} (h : O none S) : Ev (mNoPart ds S) O := h
theorem ev_part {O : Option Int → Sto → Prop} (h : Ev (ma ds S) fun x S1 => ∃ i, x = .int i ∧ O (some i) S1) : Ev (mPart ma ds S) O := ev_bind (h.imp fun x S1 ⟨i, e, h⟩ => by subst e; exact h)
theorem ev_strM {f : FM} (h : Ev (ma ds S) fun x S1 => ∃ z, x = .str z ∧ Ev (ms ds S1) fun xs S2 => Sat (f (.str z) xs S2) P) : Ev (mStrM f ma ms ds S) P :=
  ev_bind (h.imp fun x S1 ⟨z, e, h⟩ => by subst e; exact ev_bind (h.imp fun xs S2 h => ev_lift h))
theorem ev_strM0 {f : FM} (h : Ev (ma ds S) fun x S1 => ∃ z, x = .str z ∧ Sat (f (.str z) [] S1) P) : Ev (mStrM0 f ma ds S) P :=
  ev_bind (h.imp fun x S1 ⟨z, e, h⟩ => by subst e; exact ev_lift h)
/-! ### what is walked -/
theorem ev_iterL (h : Ev (ma ds S) fun x S1 => ∃ xs, x = .lst xs ∧ L xs S1) : Ev (mIter ma ds S) L := ev_bind (h.imp fun x S1 ⟨z, e, h⟩ => by subst e; exact h)
theorem ev_iterT (h : Ev (ma ds S) fun x S1 => ∃ xs, x = .tup xs ∧ L xs S1) : Ev (mIter ma ds S) L := ev_bind (h.imp fun x S1 ⟨z, e, h⟩ => by subst e; exact h)
theorem ev_iterS (h : Ev (ma ds S) fun x S1 => ∃ z, x = .str z ∧ L (signs z) S1) : Ev (mIter ma ds S) L := ev_bind (h.imp fun x S1 ⟨z, e, h⟩ => by subst e; exact h)
theorem ev_iterC (h : Ev (ma ds S) fun x S1 => ∃ xs, x = .scr xs ∧ L xs S1) : Ev (mIter ma ds S) L := ev_bind (h.imp fun x S1 ⟨z, e, h⟩ => by subst e; exact h)
theorem ev_rng1 (h : Ev (ms ds S) fun xs S1 => ∃ j : Int, xs = [.int j] ∧ (j ≤ 1000000 ∧ -1000000 ≤ j) ∧ L (rngD 0 j.toNat) S1) : Ev (mRng1 ms ds S) L :=
  ev_bind (h.imp fun x S1 ⟨z, e, hz, h⟩ => by subst e; show Ev ((if z ≤ 1000000 ∧ -1000000 ≤ z then pure (rngD 0 z.toNat) else stuck : M (List D)) S1) L; rw [if_pos hz]; exact h)
theorem ev_lrng1 (h : Ev (ma ds S) fun x S1 => ∃ j : Int, x = .int j ∧ (j ≤ 1000000 ∧ -1000000 ≤ j) ∧ P (.lst (rngD 0 j.toNat)) S1) : Ev (mLRng1 ma ds S) P :=
  ev_bind (h.imp fun x S1 ⟨z, e, hz, h⟩ => by subst e; show Ev ((if z ≤ 1000000 ∧ -1000000 ≤ z then pure (.lst (rngD 0 z.toNat)) else stuck : M D) S1) P; rw [if_pos hz]; exact h)
/-! ### comprehensions -/
variable {m : IM} {g : BM} {me : EM} {vs : List Nat}
theorem ev_comp (h : Ev (m ds S) fun items S1 => items.length ≤ 1000000 ∧ Ev (compM g mt me (wipeD ds vs) items S1) fun ys S2 => P (.lst ys) S2) : Ev (mComp m g mt me vs ds S) P :=
  ev_bind (h.imp fun items S1 h => by rw [if_pos h.1]; exact ev_bind (h.2.imp fun ys S2 h => h))
theorem comp_nil (h : L [] S) : Ev (compM g mt me ds [] S) L := h
theorem comp_cons {ds1 : En} (e : g x ds = some ds1) (h : Ev (mt ds1 S) fun b S1 => (b = true → Ev (me ds1 S1) fun y S2 => Ev (compM g mt me ds xs S2) fun ys S3 => L (y :: ys) S3) ∧ (b = false → Ev (compM g mt me ds xs S1) L)) : Ev (compM g mt me ds (x :: xs) S) L := by
  unfold compM
  refine ev_bind (ev_of e (ev_bind (ev_cl (h.imp fun b S1 h => ?_))))
  cases b with
  | true => rw [if_pos rfl]; exact ev_bind (ev_cl ((h.1 rfl).imp fun y S2 h => ev_bind (h.imp fun ys S3 h => h)))
  | false => rw [if_neg Bool.false_ne_true]; exact h.2 rfl
theorem ev_yes {T : Bool → Sto → Prop} (h : T true S) : Ev (mYes ds S) T := h
/-- each by itself, the store as it was -/
theorem comp_map (t : D → Bool) (f : D → D) : ∀ {xs : List D} {L : List D → Sto → Prop}, (∀ x, x ∈ xs → ∃ ds1, g x ds = some ds1 ∧ mt ds1 S = .ok (t x) S ∧ (t x = true → me ds1 S = .ok (f x) S)) → L ((xs.filter t).map f) S → Ev (compM g mt me ds xs S) L
  | [], L, _, h => h
  | x :: xs, L, hx, h => by
    obtain ⟨ds1, e1, e2, e3⟩ := hx x List.mem_cons_self
    refine comp_cons e1 (.of e2 ⟨fun ht => ?_, fun ht => ?_⟩)
    · refine .of (e3 ht) (comp_map t f (fun z hz => hx z (List.mem_cons_of_mem _ hz)) ?_)
      rw [List.filter_cons, if_pos ht, List.map_cons] at h
      exact h
    · rw [List.filter_cons, if_neg (by rw [ht]; exact Bool.false_ne_true)] at h
      exact comp_map t f (fun z hz => hx z (List.mem_cons_of_mem _ hz)) h
theorem comp_map1 (f : D → D) {xs : List D} {L : List D → Sto → Prop} (hx : ∀ x, x ∈ xs → ∃ ds1, g x ds = some ds1 ∧ me ds1 S = .ok (f x) S) (h : L (xs.map f) S) : Ev (compM g mYes me ds xs S) L :=
  comp_map (fun _ => true) f (fun x h => let ⟨ds1, e1, e2⟩ := hx x h; ⟨ds1, e1, rfl, fun _ => e2⟩) (by rw [List.filter_eq_self.mpr (fun _ _ => rfl)]; exact h)
/-- by what holds of each and of the store -/
theorem comp_inv (I : Sto → Prop) (Y : D → Prop) : ∀ {xs : List D} {S : Sto} {L : List D → Sto → Prop}, (∀ x S, x ∈ xs → I S → ∃ ds1, g x ds = some ds1 ∧ Ev (me ds1 S) fun y S' => Y y ∧ I S') → I S → (∀ ys S', ys.length = xs.length → (∀ y, y ∈ ys → Y y) → I S' → L ys S') → Ev (compM g mYes me ds xs S) L
  | [], S, L, _, i, h => h [] S rfl (fun _ h => by cases h) i
  | x :: xs, S, L, hx, i, h => by
    obtain ⟨ds1, e1, e2⟩ := hx x S List.mem_cons_self i
    refine comp_cons e1 (ev_yes ⟨fun _ => e2.imp fun y S' ⟨hy, i'⟩ => ?_, fun z => by cases z⟩)
    exact comp_inv I Y (fun z S hz => hx z S (List.mem_cons_of_mem _ hz)) i' fun ys S'' hl hys i'' => h _ _ (by rw [List.length_cons, List.length_cons, hl]) (fun z hz => (List.mem_cons.mp hz).elim (fun e => e ▸ hy) (hys z)) i''
end
/-! ### statements -/
section
variable {S : Sto} {ds : En} {P : Fl → Sto → Prop} {m m2 mb : SM} {ma : EM} {mt : TM} {ms : AM}
def Aft (m2 : SM) (P : Fl → Sto → Prop) : Fl → Sto → Prop
  | .nx ds, S => Ev (m2 ds S) P
  | fl, S => P fl S
theorem ev_seq (h : Ev (m ds S) (Aft m2 P)) : Ev (mSeq m m2 ds S) P := ev_bind (h.imp fun fl S1 h => by cases fl <;> exact h)
theorem aft_nx (h : Ev (m2 ds S) P) : Aft m2 P (.nx ds) S := h
theorem aft_rt {d : D} (h : P (.rt d) S) : Aft m2 P (.rt d) S := h
theorem aft_bk (h : P (.bk ds) S) : Aft m2 P (.bk ds) S := h
theorem aft_ct (h : P (.ct ds) S) : Aft m2 P (.ct ds) S := h
theorem ev_next (h : P (.nx ds) S) : Ev (mNext ds S) P := h
theorem ev_set {i : Nat} (h : Ev (ma ds S) fun d S1 => P (.nx (ds.set i (some d))) S1) : Ev (mSet i ma ds S) P := ev_tr (h.imp fun d S1 h => by rw [← put_eq] at h; exact h)
theorem ev_ret (h : Ev (ma ds S) fun d S1 => P (.rt d) S1) : Ev (mRet ma ds S) P := ev_tr (h.imp fun d S1 h => h)
theorem ev_expr (h : Ev (ma ds S) fun _ S1 => P (.nx ds) S1) : Ev (mExpr ma ds S) P := ev_tr (h.imp fun d S1 h => h)
theorem ev_ifS (h : Ev (mt ds S) fun b S1 => (b = true → Ev (m ds S1) P) ∧ (b = false → Ev (m2 ds S1) P)) : Ev (mIfS mt m m2 ds S) P :=
  ev_tr (h.imp fun b S1 h => by
    cases b with
    | true => rw [if_pos rfl]; exact h.1 rfl
    | false => rw [if_neg Bool.false_ne_true]; exact h.2 rfl)
theorem ev_par {i j : Nat} (h : Ev (ms ds S) fun xs S1 => ∃ x y, xs = [x, y] ∧ P (.nx ((ds.set i (some x)).set j (some y))) S1) : Ev (mPar i j ms ds S) P := ev_tr (h.imp fun xs S1 ⟨x, y, e, h⟩ => by subst e; rw [← put_eq, ← put_eq] at h; exact h)
theorem ev_asg {g : GM} (h : Ev (ma ds S) fun d S1 => Ev (g d ds S1) fun ds1 S2 => P (.nx ds1) S2) : Ev (mAsg ma g ds S) P := ev_tr (h.imp fun d S1 h => ev_tr (h.imp fun ds1 S2 h => h))
theorem ev_tupG {is : List Nat} {xs : List D} {G : En → Sto → Prop} (hl : xs.length = is.length) (h : G (setAll is xs ds) S) : Ev (mTupG is (.tup xs) ds S) G := by
  unfold mTupG
  simp only
  rw [if_pos hl]
  exact h
theorem ev_name {i : Nat} {d : D} {G : En → Sto → Prop} (h : G (ds.set i (some d)) S) : Ev (mName i d ds S) G := by rw [← put_eq] at h; exact h
theorem ev_sub {mo mi : EM} {d : D} {G : En → Sto → Prop} (h : Ev (mo ds S) fun o S1 => Ev (mi ds S1) fun i S2 => ∃ k j xs n, o = .cell k ∧ i = .int j ∧ S2[k]? = some (.lst xs) ∧ ixN xs.length j = some n ∧ G ds (S2.set k (.lst (xs.set n d)))) : Ev (mSub mo mi d ds S) G :=
  ev_bind (h.imp fun o S1 h => ev_bind (h.imp fun i S2 ⟨k, j, xs, n, e1, e2, e3, e4, h2⟩ => by
    subst e1 e2
    simp only [e3, e4]
    exact h2))
theorem ev_for {mi : IM} {g : GM} (h : Ev (mi ds S) fun items S1 => Ev (loopM g mb items ds S1) P) : Ev (mFor mi g mb ds S) P := ev_tr (h.imp fun items S1 h => h)
/-- behind a turn -/
def Turn (next : En → Sto → Prop) (P : Fl → Sto → Prop) : Fl → Sto → Prop
  | .nx ds, S => next ds S
  | .ct ds, S => next ds S
  | .bk ds, S => P (.nx ds) S
  | fl, S => P fl S
theorem loop_nil {g : GM} (h : P (.nx ds) S) : Ev (loopM g mb [] ds S) P := h
theorem loop_cons {g : GM} {x : D} {xs : List D} (h : Ev (g x ds S) fun ds1 S1 => Ev (mb ds1 S1) (Turn (fun ds2 S2 => Ev (loopM g mb xs ds2 S2) P) P)) : Ev (loopM g mb (x :: xs) ds S) P := by
  unfold loopM
  exact ev_tr (h.imp fun ds1 S1 h => ev_bind (h.imp fun fl S2 h => by cases fl <;> exact h))
end
/-! ### defs -/
section
variable {S S1 : Sto} {P : D → Sto → Prop} {m : SM} {xs : List D} {n : Nat}
/-- no cell within -/
def flatS (S : Sto) : Prop := clS 0 S = true
mutual
theorem clD_up {k : Nat} : ∀ {d : D}, clD 0 d = true → clD k d = true
  | .cell j, h => by have h' : decide (j < 0) = true := h; exact absurd (of_decide_eq_true h') (by omega)
  | .tup xs, h => clL_up (d := xs) h
  | .lst xs, h => clL_up (d := xs) h
  | .scr xs, h => clL_up (d := xs) h
  | .oth _ xs, h => clL_up (d := xs) h
  | .non, _ => rfl
  | .bl _, _ => rfl
  | .int _, _ => rfl
  | .str _, _ => rfl
  | .ty _, _ => rfl
theorem clL_up {k : Nat} : ∀ {d : List D}, clL 0 d = true → clL k d = true
  | [], _ => rfl
  | x :: xs, h => by
    have h' : (clD 0 x && clL 0 xs) = true := h
    rw [Bool.and_eq_true] at h'
    show (clD k x && clL k xs) = true
    rw [clD_up h'.1, clL_up h'.2]; rfl
end
mutual
theorem fz_cl {k : Nat} {g : Nat → Option D} : ∀ {d : D}, clD 0 d = true → fzD k g d = some d
  | .cell j, h => by have h' : decide (j < 0) = true := h; exact absurd (of_decide_eq_true h') (by omega)
  | .tup xs, h => by show (fzL k g xs).map D.tup = _; rw [fzL_cl h]; rfl
  | .lst xs, h => by show (fzL k g xs).map D.lst = _; rw [fzL_cl h]; rfl
  | .scr xs, h => by show (fzL k g xs).map D.scr = _; rw [fzL_cl h]; rfl
  | .oth t xs, h => by show (fzL k g xs).map (D.oth t) = _; rw [fzL_cl h]; rfl
  | .non, _ => rfl
  | .bl _, _ => rfl
  | .int _, _ => rfl
  | .str _, _ => rfl
  | .ty _, _ => rfl
theorem fzL_cl {k : Nat} {g : Nat → Option D} : ∀ {d : List D}, clL 0 d = true → fzL k g d = some d
  | [], _ => rfl
  | x :: xs, h => by
    have h' : (clD 0 x && clL 0 xs) = true := h
    rw [Bool.and_eq_true] at h'
    show (match fzD k g x, fzL k g xs with
      | some y, some ys => some (y :: ys)
      | _, _ => none) = _
    rw [fz_cl h'.1, fzL_cl h'.2]
end
theorem clS_up {k : Nat} (h : flatS S) : clS k S = true := by
  unfold flatS clS at h
  unfold clS
  rw [List.all_eq_true] at h ⊢
  intro c hc
  exact clL_up (h c hc)
/-- what a body's end gives the caller -/
def Ret (P : D → Sto → Prop) : Fl → Sto → Prop
  | .rt d, S => P d S
  | .nx _, S => P .non S
  | _, _ => False
theorem ev_fnK (h : Ev (m (stD n xs) S) (Ret P)) : Ev (mFnK n m xs S) P := ev_bind (h.imp fun fl S1 h => by cases fl <;> exact h)
theorem ev_fnT (h : Ev (m (stD n xs) S) (Ret fun d S1 => S1.length = S.length ∧ flatS S1 ∧ clD 0 d = true ∧ P d S1)) : Ev (mFnT n m xs S) P := by
  obtain ⟨d, S1, e, hl, hf, hd, p⟩ := (ev_fnK h).eq
  unfold mFnT
  rw [e]
  show Ev (cutM S.length d S1) P
  unfold cutM
  rw [← hl, List.take_length, if_pos ⟨Nat.le_refl _, clS_up hf⟩, fz_cl hd]
  exact p
end
end Pv

/-! Pv18: the operations by kinds. -/
namespace Pv
open PySem PySem.Spec PyProof.Rows L2
/-- the text of these code points -/
abbrev txt (l : List Nat) : D := .str (SX.S l)
section
variable {X : Cx} {W : Wsh X.K} {pos p : Pos}
theorem x_strL {l : List Nat} {z : Str} {q : Nat} (e : z = SX.S l := by decide +kernel) : PEm X W (.Constant (.str z) q pos) (mK (txt l)) := by subst e; exact x_str
theorem x_gSL {x z : Str} {l : List Nat} {tk : Tok} (hm : X.mg x = some (.str z tk)) (e : z = SX.S l := by decide +kernel) (hg : Gl X x := by rfl) (hd : (x == ("__debug__" : Str)) = false := by decide) : PEm X W (.Name x p) (mK (txt l)) := by subst e; exact x_gS hm hg hd
end
section
variable {S : Sto} {P : D → Sto → Prop} {i j : Int} {a b : List Nat} {xs ys : List D} {x y d : D} {k : Nat}
theorem tl_S (l : List Nat) : (SX.S l).cps.toList = l := rfl
theorem len_S (l : List Nat) : (SX.S l).length = l.length := SX.S_len l
/-! + - * % // ** -/
theorem s_add_ii (h : P (.int (i + j)) S) : Sat (fAdd (.int i) (.int j) S) P := h
theorem s_add_ss (hl : a.length + b.length ≤ 1000000) (h : P (txt (a ++ b)) S) : Sat (fAdd (txt a) (txt b) S) P := by
  show Sat (if (SX.S a).length + (SX.S b).length ≤ 1000000 then some (.str (SX.S a ++ SX.S b), S) else none) P
  rw [if_pos (by rw [len_S, len_S]; exact hl), SX.S_cat]
  exact h
theorem s_add_tt (hl : xs.length + ys.length ≤ 1000000) (h : P (.tup (xs ++ ys)) S) : Sat (fAdd (.tup xs) (.tup ys) S) P := by
  show Sat (if xs.length + ys.length ≤ 1000000 then some (.tup (xs ++ ys), S) else none) P
  rw [if_pos hl]
  exact h
theorem s_add_ll (hl : xs.length + ys.length ≤ 1000000) (h : P (.lst (xs ++ ys)) S) : Sat (fAdd (.lst xs) (.lst ys) S) P := by
  show Sat (if xs.length + ys.length ≤ 1000000 then some (.lst (xs ++ ys), S) else none) P
  rw [if_pos hl]
  exact h
theorem s_sub (h : P (.int (i - j)) S) : Sat (fSub (.int i) (.int j) S) P := h
theorem s_mul_ii (hc : (-18446744073709551616 < i ∧ i < 18446744073709551616) ∨ (-18446744073709551616 < j ∧ j < 18446744073709551616)) (h : P (.int (i * j)) S) : Sat (fMul (.int i) (.int j) S) P := by
  show Sat (if (decide (-18446744073709551616 < i ∧ i < 18446744073709551616) || decide (-18446744073709551616 < j ∧ j < 18446744073709551616)) = true then some (.int (i * j), S) else none) P
  rw [if_pos (by rw [Bool.or_eq_true, decide_eq_true_eq, decide_eq_true_eq]; exact hc)]
  exact h
theorem rep_S (a : List Nat) (n : Nat) : repS (SX.S a) n = SX.S (List.replicate n a).flatten := rfl
theorem s_mul_si (hc : 0 ≤ j ∧ j ≤ 1000000 ∧ a.length * j.toNat ≤ 1000000) (h : P (txt (List.replicate j.toNat a).flatten) S) : Sat (fMul (txt a) (.int j) S) P := by
  show Sat (if 0 ≤ j ∧ j ≤ 1000000 ∧ (SX.S a).length * j.toNat ≤ 1000000 then some (.str (repS (SX.S a) j.toNat), S) else none) P
  rw [if_pos (by rw [len_S]; exact hc)]
  exact h
theorem s_mul_li (hc : 0 ≤ j ∧ j ≤ 1000000 ∧ xs.length * j.toNat ≤ 1000000) (h : P (.lst (List.replicate j.toNat xs).flatten) S) : Sat (fMul (.lst xs) (.int j) S) P := by
  show Sat (if 0 ≤ j ∧ j ≤ 1000000 ∧ xs.length * j.toNat ≤ 1000000 then some (.lst (List.replicate j.toNat xs).flatten, S) else none) P
  rw [if_pos hc]
  exact h
theorem s_mod (hj : 0 < j) (h : P (.int (i % j)) S) : Sat (fMod (.int i) (.int j) S) P := by
  show Sat (if 0 < j then some (.int (i % j), S) else none) P
  rw [if_pos hj]
  exact h
theorem s_div (hj : 0 < j ∧ j < 1073741824) (h : P (.int (i / j)) S) : Sat (fDiv (.int i) (.int j) S) P := by
  show Sat (if 0 < j ∧ j < 1073741824 then some (.int (i / j), S) else none) P
  rw [if_pos hj]
  exact h
theorem s_pow (hj : 0 ≤ j ∧ (Builtin.Int.intBits i : Int) * j ≤ 134217728) (h : P (.int (i ^ j.toNat)) S) : Sat (fPow (.int i) (.int j) S) P := by
  show Sat (if 0 ≤ j ∧ (Builtin.Int.intBits i : Int) * j ≤ 134217728 then some (.int (i ^ j.toNat), S) else none) P
  rw [if_pos hj]
  exact h
theorem s_neg (h : P (.int (-i)) S) : Sat (fNeg (.int i) S) P := h
/-! comparisons -/
theorem s_lt (h : P (.bl (decide (i < j))) S) : Sat (fLt (.int i) (.int j) S) P := h
theorem s_le (h : P (.bl (decide (i ≤ j))) S) : Sat (fLe (.int i) (.int j) S) P := h
theorem s_gt (h : P (.bl (decide (j < i))) S) : Sat (fGt (.int i) (.int j) S) P := h
theorem s_ge (h : P (.bl (decide (j ≤ i))) S) : Sat (fGe (.int i) (.int j) S) P := h
theorem S_dec (a b : List Nat) : decide (SX.S a = SX.S b) = decide (a = b) := by
  by_cases h : a = b
  · subst h; simp
  · rw [decide_eq_false h, decide_eq_false fun z => h (SX.S_inj z)]
theorem s_eq_ss (h : P (.bl (decide (a = b))) S) : Sat (fEq (txt a) (txt b) S) P := by
  show P (.bl (decide (SX.S a = SX.S b))) S
  rw [S_dec]
  exact h
theorem s_ne_ss (h : P (.bl (!decide (a = b))) S) : Sat (fNe (txt a) (txt b) S) P := by
  show P (.bl (!decide (SX.S a = SX.S b))) S
  rw [S_dec]
  exact h
theorem s_eq_st {u v : Str} (h : P (.bl (decide (u = v))) S) : Sat (fEq (.str u) (.str v) S) P := h
theorem s_ne_st {u v : Str} (h : P (.bl (!decide (u = v))) S) : Sat (fNe (.str u) (.str v) S) P := h
theorem s_eq_ii (h : P (.bl (decide (i = j))) S) : Sat (fEq (.int i) (.int j) S) P := h
theorem s_ne_ii (h : P (.bl (!decide (i = j))) S) : Sat (fNe (.int i) (.int j) S) P := h
mutual
theorem vw_cl : ∀ {d : D}, clD 0 d = true → eqOk d = true → vw S d = d
  | .cell j, h, _ => by have h' : decide (j < 0) = true := h; exact absurd (of_decide_eq_true h') (by omega)
  | .tup xs, _, _ => rfl
  | .lst xs, _, _ => rfl
  | .scr xs, _, h => by exact absurd h (by simp [eqOk, pln])
  | .oth t xs, _, h => by exact absurd h (by simp [eqOk, pln])
  | .non, _, _ => rfl
  | .bl _, _, _ => rfl
  | .int _, _, _ => rfl
  | .str _, _, _ => rfl
  | .ty _, _, _ => rfl
end
theorem pln_vw : ∀ {d : D}, pln d = true → vw S d = d
  | .cell j, h => by cases h
  | .tup xs, _ => rfl
  | .lst xs, _ => rfl
  | .scr xs, h => by cases h
  | .oth _ _, h => by cases h
  | .non, _ => rfl
  | .bl _, _ => rfl
  | .int _, _ => rfl
  | .str _, _ => rfl
  | .ty _, h => by cases h
theorem eqOk_vw (h : eqOk d = true) : vw S d = d := pln_vw (by unfold eqOk at h; rw [Bool.and_eq_true] at h; exact h.1)
theorem s_eqD {n : Bool} (hx : eqOk x = true) (hy : eqOk y = true) (h : P (.bl (n ^^ deq x y)) S) : Sat (fEqD n x y S) P := by
  unfold fEqD
  rw [eqOk_vw hx, eqOk_vw hy, hx, hy]
  exact h
theorem s_eq_D (hx : eqOk x = true) (hy : eqOk y = true) (h : P (.bl (deq x y)) S) : Sat (fEq x y S) P := by
  unfold fEq
  split
  · rename_i u v
    have e : deq (.str u) (.str v) = decide (u = v) := by
      show (u == v) = _
      by_cases z : u = v
      · subst z; simp
      · rw [decide_eq_false z]; simpa using z
    rw [e] at h
    exact h
  · rename_i u v
    have e : deq (.int u) (.int v) = decide (u = v) := by
      show (u == v) = _
      by_cases z : u = v
      · subst z; simp
      · rw [decide_eq_false z]; simpa using z
    rw [e] at h
    exact h
  · exact s_eqD hx hy (by simpa using h)
theorem s_ne_D (hx : eqOk x = true) (hy : eqOk y = true) (h : P (.bl (!deq x y)) S) : Sat (fNe x y S) P := by
  unfold fNe
  split
  · rename_i u v
    have e : deq (.str u) (.str v) = decide (u = v) := by
      show (u == v) = _
      by_cases z : u = v
      · subst z; simp
      · rw [decide_eq_false z]; simpa using z
    rw [e] at h
    exact h
  · rename_i u v
    have e : deq (.int u) (.int v) = decide (u = v) := by
      show (u == v) = _
      by_cases z : u = v
      · subst z; simp
      · rw [decide_eq_false z]; simpa using z
    rw [e] at h
    exact h
  · exact s_eqD hx hy (by simpa using h)
theorem s_inS {c : Nat} {z : List Nat} (h : P (.bl (decide (c ∈ z))) S) : Sat (fIn (txt [c]) (txt z) S) P := h
theorem s_is (b1 b2 : Bool) (h : P (.bl (decide (b1 = b2))) S) : Sat (fIs (.bl b1) (.bl b2) S) P := h
theorem s_isNot (b1 b2 : Bool) (h : P (.bl (!decide (b1 = b2))) S) : Sat (fIsNot (.bl b1) (.bl b2) S) P := h
/-! functions -/
theorem s_len_s (hl : a.length ≤ 1000000) (h : P (.int a.length) S) : Sat (fLen [txt a] S) P := by
  show Sat (if (SX.S a).length ≤ 1000000 then some (.int (SX.S a).length, S) else none) P
  rw [len_S, if_pos hl]
  exact h
theorem s_len_t (h : P (.int xs.length) S) : Sat (fLen [.tup xs] S) P := h
theorem s_len_l (h : P (.int xs.length) S) : Sat (fLen [.lst xs] S) P := h
theorem s_len_c (h : P (.int xs.length) S) : Sat (fLen [.scr xs] S) P := h
theorem s_len_cell (e : S[k]? = some (.lst xs)) (h : P (.int xs.length) S) : Sat (fLen [.cell k] S) P := by
  unfold fLen
  simp only [vw, e]
  exact h
theorem s_abs (h : P (.int (if i < 0 then -i else i)) S) : Sat (fAbs [.int i] S) P := h
theorem s_int (h : P (.int i) S) : Sat (fInt [.int i] S) P := h
theorem s_intB {t : Bool} (h : P (.int (if t then 1 else 0)) S) : Sat (fInt [.bl t] S) P := h
theorem s_min2 (h : P (.int (if j < i then j else i)) S) : Sat (fMin [.int i, .int j] S) P := h
theorem s_max2 (h : P (.int (if j > i then j else i)) S) : Sat (fMax [.int i, .int j] S) P := h
theorem s_all {bs : List Bool} (h : P (.bl (bs.all id)) S) : Sat (fAll [.lst (bs.map D.bl)] S) P := by
  unfold fAll
  simp only [vw, bools_map]
  exact h
theorem s_any {bs : List Bool} (h : P (.bl (bs.any id)) S) : Sat (fAny [.lst (bs.map D.bl)] S) P := by
  unfold fAny
  simp only [vw, bools_map]
  exact h
theorem s_sum {ns : List Int} (h : P (.int ns.sum) S) : Sat (fSum [.lst (ns.map D.int)] S) P := by
  unfold fSum
  simp only [vw, ints_map]
  exact h
theorem s_list_l (h : P (.lst xs) S) : Sat (fList [.lst xs] S) P := h
theorem s_list_t (h : P (.lst xs) S) : Sat (fList [.tup xs] S) P := h
theorem s_tuple_l (h : P (.tup xs) S) : Sat (fTuple [.lst xs] S) P := h
theorem s_tuple_t (h : P (.tup xs) S) : Sat (fTuple [.tup xs] S) P := h
/-- kinds -/
def kindOk (d : D) : Bool := ["NoneType", "bool", "int", "str", "tuple", "list"].contains (tyN d)
theorem s_isi {n : String} (hk : kindOk (vw S x) = true) (hn : ["bool", "int", "str", "tuple", "list", "dict"].contains n = true) (h : P (.bl (isiB (tyN (vw S x)) n)) S) : Sat (fIsi [x, .ty n] S) P := by
  show Sat (if (kindOk (vw S x) && ["bool", "int", "str", "tuple", "list", "dict"].contains n) = true then some (.bl (isiB (tyN (vw S x)) n), S) else none) P
  rw [hk, hn]
  exact h
theorem reOk_vw (h : reOk d = true) : vw S d = d := by
  cases d <;> first | rfl | (exact absurd h (by simp [reOk, shOk]))
theorem s_repr (hx : reOk x = true) (h : P (.str (shw x)) S) : Sat (fRepr [x] S) P := by
  show Sat (if reOk (vw S x) = true then some (.str (shw (vw S x)), S) else none) P
  rw [reOk_vw hx, if_pos hx]
  exact h
/-! subscripts, slices -/
theorem s_ix_t (e : atI xs i = some d) (h : P d S) : Sat (fIx (.tup xs) (.int i) S) P := by
  show Sat ((atI xs i).map fun d => (d, S)) P
  rw [e]; exact h
theorem s_ix_l (e : atI xs i = some d) (h : P d S) : Sat (fIx (.lst xs) (.int i) S) P := by
  show Sat ((atI xs i).map fun d => (d, S)) P
  rw [e]; exact h
theorem s_ix_c (e : atI xs i = some d) (h : P d S) : Sat (fIx (.scr xs) (.int i) S) P := by
  show Sat ((atI xs i).map fun d => (d, S)) P
  rw [e]; exact h
theorem s_ix_cell (e0 : S[k]? = some (.lst xs)) (e : atI xs i = some d) (h : P d S) : Sat (fIx (.cell k) (.int i) S) P := by
  unfold fIx
  simp only [vw, e0, e]
  exact h
theorem s_ix_s {c : Nat} (hl : a.length ≤ 1000000) (e : atI a i = some c) (h : P (txt [c]) S) : Sat (fIx (txt a) (.int i) S) P := by
  show Sat (if (SX.S a).length ≤ 1000000 then (atI (SX.S a).cps.toList i).map fun c => (.str ⟨#[c]⟩, S) else none) P
  rw [len_S, if_pos hl, tl_S, e]
  exact h
variable {lo hi : Option Int}
theorem s_sl_s (hl : a.length ≤ 1000000) (h : P (txt (cutL a lo hi)) S) : Sat (fSl lo hi (txt a) S) P := by
  show Sat (if (SX.S a).length ≤ 1000000 then some (.str ⟨(cutL (SX.S a).cps.toList lo hi).toArray⟩, S) else none) P
  rw [len_S, if_pos hl]
  exact h
theorem s_sl_t (h : P (.tup (cutL xs lo hi)) S) : Sat (fSl lo hi (.tup xs) S) P := h
theorem s_sl_l (h : P (.lst (cutL xs lo hi)) S) : Sat (fSl lo hi (.lst xs) S) P := h
theorem s_sl_c (h : P (.lst (cutL xs lo hi)) S) : Sat (fSl lo hi (.scr xs) S) P := h
theorem s_rev_s (hl : a.length ≤ 1000000) (h : P (txt a.reverse) S) : Sat (fRev (txt a) S) P := by
  show Sat (if (SX.S a).length ≤ 1000000 then some (.str ⟨(SX.S a).cps.toList.reverse.toArray⟩, S) else none) P
  rw [len_S, if_pos hl]
  exact h
theorem s_rev_t (h : P (.tup xs.reverse) S) : Sat (fRev (.tup xs) S) P := h
theorem s_rev_l (h : P (.lst xs.reverse) S) : Sat (fRev (.lst xs) S) P := h
end
/-! ### slices of lists -/
section
variable {α : Type} (xs : List α)
theorem cut_to {n : Nat} : cutL xs none (some (n : Int)) = xs.take n := by
  unfold cutL
  rw [HT.sIx_nat, HT.sIx_none, List.drop_zero, Nat.sub_zero]
  by_cases h : n ≤ xs.length
  · rw [Nat.min_eq_left h]
  · rw [Nat.min_eq_right (by omega), List.take_length, List.take_of_length_le (by omega)]
theorem cut_from {n : Nat} : cutL xs (some (n : Int)) none = xs.drop n := by
  unfold cutL
  rw [HT.sIx_nat, HT.sIx_none]
  by_cases h : n ≤ xs.length
  · rw [Nat.min_eq_left h]
    exact List.take_of_length_le (by rw [List.length_drop]; omega)
  · rw [Nat.min_eq_right (by omega), Nat.sub_self, List.take_zero, List.drop_eq_nil_of_le (by omega)]
theorem cut_butlast : cutL xs none (some (-1)) = xs.dropLast := by
  unfold cutL HT.sIx
  simp
  rw [List.dropLast_eq_take]
  congr 1
  omega
end
end Pv

/-! Pv19: the drawn numbers: a list of three that changes. -/
namespace Pv
open PySem PySem.Spec PyProof.Rows L2
/-- own digits, the small number, how often it was asked (at most n times) -/
def Pot (n : Int) (c : Cl) : Prop := ∃ own p1 p2 : Int, c = .lst [.int own, .int p1, .int p2] ∧ 0 ≤ own ∧ 0 ≤ p1 ∧ p1 < 2305843009213693951 ∧ 0 ≤ p2 ∧ p2 ≤ n
/-- the store S0, a pot at k -/
structure PS (k : Nat) (n : Int) (S0 S : Sto) : Prop where
  ex : ∃ c, Pot n c ∧ S = S0.set k c
  lt : k < S0.length
  flat : flatS S0
section
variable {k : Nat} {n m : Int} {S0 S : Sto}
theorem Pot.up {c : Cl} (h : Pot n c) (l : n ≤ m) : Pot m c := by
  obtain ⟨a, b, d, e, h1, h2, h3, h4, h5⟩ := h
  exact ⟨a, b, d, e, h1, h2, h3, h4, by omega⟩
theorem Pot.flat {c : Cl} (h : Pot n c) : ∀ c', c' = c → clL 0 c'.parts = true := by
  obtain ⟨a, b, d, e, _⟩ := h
  intro c' q
  subst q e
  rfl
theorem PS.up (h : PS k n S0 S) (l : n ≤ m) : PS k m S0 S := ⟨let ⟨c, p, e⟩ := h.ex; ⟨c, p.up l, e⟩, h.lt, h.flat⟩
theorem PS.len (h : PS k n S0 S) : S.length = S0.length := by
  obtain ⟨c, _, e⟩ := h.ex
  rw [e, List.length_set]
theorem flatS_set {c : Cl} (h : flatS S) (hc : clL 0 c.parts = true) : flatS (S.set k c) := by
  unfold flatS clS at *
  rw [List.all_eq_true] at *
  intro x hx
  rcases List.mem_or_eq_of_mem_set hx with hx | rfl
  · exact h x hx
  · exact hc
theorem PS.fl (h : PS k n S0 S) : flatS S := by
  obtain ⟨c, p, e⟩ := h.ex
  rw [e]
  exact flatS_set h.flat (p.flat c rfl)
theorem PS.at (h : PS k n S0 S) : ∃ own p1 p2 : Int, S[k]? = some (.lst [.int own, .int p1, .int p2]) ∧ 0 ≤ own ∧ 0 ≤ p1 ∧ p1 < 2305843009213693951 ∧ 0 ≤ p2 ∧ p2 ≤ n := by
  obtain ⟨c, ⟨a, b, d, e, q⟩, e2⟩ := h.ex
  subst e e2
  exact ⟨a, b, d, by rw [List.getElem?_set_self h.lt], q⟩
theorem PS.put (h : PS k n S0 S) {c : Cl} (p : Pot m c) : PS k m S0 (S.set k c) := by
  obtain ⟨c0, _, e⟩ := h.ex
  refine ⟨⟨c, p, ?_⟩, h.lt, h.flat⟩
  rw [e, List.set_set]
theorem atI0 {α : Type} {a b c : α} : atI [a, b, c] 0 = some a := rfl
end
/-! ### branches -/
theorem br {c A B : Prop} [Decidable c] (h1 : c → A) (h2 : ¬ c → B) : (decide c = true → A) ∧ (decide c = false → B) := ⟨fun h => h1 (of_decide_eq_true h), fun h => h2 (of_decide_eq_false h)⟩
theorem brN {c A B : Prop} [Decidable c] (h1 : ¬ c → A) (h2 : c → B) : ((!decide c) = true → A) ∧ ((!decide c) = false → B) :=
  ⟨fun h => h1 (of_decide_eq_false (by simpa using h)), fun h => h2 (of_decide_eq_true (by simpa using h))⟩
theorem brT {A B : Prop} (h : A) : (true = true → A) ∧ (true = false → B) := ⟨fun _ => h, fun z => by cases z⟩
theorem brF {A B : Prop} (h : B) : (false = true → A) ∧ (false = false → B) := ⟨(fun z => by cases z), fun _ => h⟩
theorem brNT {A B : Prop} (h : B) : ((!true) = true → A) ∧ ((!true) = false → B) := ⟨(fun z => by cases z), fun _ => h⟩
theorem brNF {A B : Prop} (h : A) : ((!false) = true → A) ∧ ((!false) = false → B) := ⟨fun _ => h, fun z => by cases z⟩
theorem exB {b : Bool} {Q : Bool → Prop} (h : Q b) : ∃ c, D.bl b = .bl c ∧ Q c := ⟨b, rfl, h⟩
theorem exI {i : Int} {Q : Int → Prop} (h : Q i) : ∃ c, D.int i = .int c ∧ Q c := ⟨i, rfl, h⟩
theorem exS {z : Str} {Q : Str → Prop} (h : Q z) : ∃ c, D.str z = .str c ∧ Q c := ⟨z, rfl, h⟩
theorem ex2 {x y : D} {Q : D → D → Prop} (h : Q x y) : ∃ a b, [x, y] = [a, b] ∧ Q a b := ⟨x, y, rfl, h⟩
/-! ### comprehensions over lists of any make -/
section
variable {α : Type} {S : Sto} {ds : En} {g : BM} {mt : TM} {me : EM}
theorem comp_filtL (i : α → D) (t : α → Bool) (f : α → D) : ∀ {xs : List α} {L : List D → Sto → Prop}, (∀ a, a ∈ xs → ∃ ds1, g (i a) ds = some ds1 ∧ Ev (mt ds1 S) (fun b S' => b = t a ∧ S' = S) ∧ (t a = true → Ev (me ds1 S) fun d S' => d = f a ∧ S' = S)) →
    L ((xs.filter t).map f) S → Ev (compM g mt me ds (xs.map i) S) L
  | [], L, _, h => h
  | a :: xs, L, hx, h => by
    obtain ⟨ds1, e1, e2, e3⟩ := hx a List.mem_cons_self
    refine comp_cons e1 (e2.imp fun b S1 ⟨hb, hS⟩ => ?_)
    rw [hb, hS]
    refine ⟨fun ht => (e3 ht).imp fun d S2 ⟨hd, hS2⟩ => ?_, fun ht => ?_⟩
    · rw [hd, hS2]
      rw [List.filter_cons, if_pos ht, List.map_cons] at h
      exact comp_filtL i t f (fun z hz => hx z (List.mem_cons_of_mem _ hz)) h
    · rw [List.filter_cons, if_neg (by rw [ht]; exact Bool.false_ne_true)] at h
      exact comp_filtL i t f (fun z hz => hx z (List.mem_cons_of_mem _ hz)) h
theorem comp_mapL (i : α → D) (f : α → D) {xs : List α} {L : List D → Sto → Prop} (hx : ∀ a, a ∈ xs → ∃ ds1, g (i a) ds = some ds1 ∧ Ev (me ds1 S) fun d S' => d = f a ∧ S' = S) (h : L (xs.map f) S) : Ev (compM g mYes me ds (xs.map i) S) L :=
  comp_filtL i (fun _ => true) f (fun a ha => let ⟨ds1, e1, e2⟩ := hx a ha; ⟨ds1, e1, ev_yes ⟨rfl, rfl⟩, fun _ => e2⟩) (by rw [List.filter_eq_self.mpr (fun _ _ => rfl)]; exact h)
/-- by what holds of each and of the store, counted -/
theorem comp_invN (I : Nat → Sto → Prop) (Y : D → Prop) (N : Nat) : ∀ {xs : List D} (n : Nat) {S : Sto} {L : List D → Sto → Prop}, (∀ x i S, x ∈ xs → i < N → I i S → ∃ ds1, g x ds = some ds1 ∧ Ev (me ds1 S) fun y S' => Y y ∧ I (i + 1) S') → n + xs.length ≤ N → I n S →
    (∀ ys S', ys.length = xs.length → (∀ y, y ∈ ys → Y y) → I (n + xs.length) S' → L ys S') → Ev (compM g mYes me ds xs S) L
  | [], n, S, L, _, _, i, h => h [] S rfl (fun _ h => by cases h) i
  | x :: xs, n, S, L, hx, hN, i, h => by
    rw [List.length_cons] at hN
    obtain ⟨ds1, e1, e2⟩ := hx x n S List.mem_cons_self (by omega) i
    refine comp_cons e1 (ev_yes ⟨fun _ => e2.imp fun y S' ⟨hy, i'⟩ => ?_, fun z => by cases z⟩)
    exact comp_invN I Y N (n + 1) (fun z n S hz => hx z n S (List.mem_cons_of_mem _ hz)) (by omega) i' fun ys S'' hl hys i'' =>
      h _ _ (by rw [List.length_cons, List.length_cons, hl]) (fun z hz => (List.mem_cons.mp hz).elim (fun e => e ▸ hy) (hys z)) (by rw [List.length_cons]; rw [Nat.add_assoc, Nat.add_comm 1] at i''; exact i'')
end
section
variable {S : Sto} {P : D → Sto → Prop} {x : D}
theorem s_isi' {n : String} {b : Bool} (hk : kindOk (vw S x) = true) (hn : ["bool", "int", "str", "tuple", "list", "dict"].contains n = true) (e : isiB (tyN (vw S x)) n = b) (h : P (.bl b) S) : Sat (fIsi [x, .ty n] S) P := by
  subst e; exact s_isi hk hn h
theorem ys_of {f : Nat → D} : ∀ {ys : List D} {p : Nat → Prop}, (∀ y, y ∈ ys → ∃ c, p c ∧ y = f c) → ∃ l : List Nat, ys = l.map f ∧ ∀ c, c ∈ l → p c
  | [], _, _ => ⟨[], rfl, fun _ h => by cases h⟩
  | y :: ys, p, h => by
    obtain ⟨c, hc, e⟩ := h y List.mem_cons_self
    obtain ⟨l, e2, h2⟩ := ys_of (ys := ys) fun z hz => h z (List.mem_cons_of_mem _ hz)
    exact ⟨c :: l, by rw [e, e2]; rfl, fun d hd => (List.mem_cons.mp hd).elim (fun q => q ▸ hc) (h2 d)⟩
theorem joinL_ones (l : List Nat) : TL.joinL [] (l.map fun c => [c]) = l := by
  induction l with
  | nil => rfl
  | cons c l ih =>
    cases l with
    | nil => rfl
    | cons d l =>
      show [c] ++ ([] ++ TL.joinL [] ((d :: l).map fun c => [c])) = c :: d :: l
      rw [ih]; rfl
theorem s_join1 {l : List Nat} (hl : l.length ≤ 1000000) (h : P (txt l) S) : Sat (fJoin (txt []) [.lst (l.map fun c => txt [c])] S) P := by
  have e : strs? (l.map fun c => txt [c]) = some ((l.map fun c => [c]).map SX.S) := by
    rw [List.map_map]
    have := strs_map (l.map fun c => SX.S [c])
    rw [List.map_map] at this
    exact this
  unfold fJoin
  simp only [vw, e, Option.bind_some, SX.join_S, joinL_ones]
  rw [if_pos]
  · exact h
  · have z : ((l.map fun c => [c]).map SX.S).map (·.length) = l.map fun _ => 1 := by
      rw [List.map_map, List.map_map]; rfl
    rw [z]
    have z2 : (SX.S []).length = 0 := rfl
    rw [z2, Nat.mul_zero, Nat.add_zero]
    have z3 : (l.map fun _ => 1).sum = l.length := by
      clear h hl e z z2
      induction l with
      | nil => rfl
      | cons a l ih => rw [List.map_cons, List.sum_cons, ih, List.length_cons]; omega
    rw [z3]; exact hl
theorem atI_mem {α : Type} {xs : List α} {i : Int} (h0 : 0 ≤ i) (h1 : i < xs.length) : ∃ x, atI xs i = some x ∧ x ∈ xs := by
  have hn : i.toNat < xs.length := by omega
  refine ⟨xs[i.toNat], ?_, List.getElem_mem hn⟩
  unfold atI ixN
  rw [if_pos h0, if_pos h1]
  show xs[i.toNat]? = _
  exact List.getElem?_eq_getElem hn
end
/-! ### slices from, to -/
section
variable {S : Sto} {P : D → Sto → Prop} {i : Int} {a : List Nat} {xs : List D}
theorem cut_toI {α : Type} {xs : List α} (h : 0 ≤ i) : cutL xs none (some i) = xs.take i.toNat := by
  have e : (i.toNat : Int) = i := Int.toNat_of_nonneg h
  rw [← e, cut_to, Int.toNat_natCast]
theorem cut_fromI {α : Type} {xs : List α} (h : 0 ≤ i) : cutL xs (some i) none = xs.drop i.toNat := by
  have e : (i.toNat : Int) = i := Int.toNat_of_nonneg h
  rw [← e, cut_from, Int.toNat_natCast]
theorem s_to_s (h0 : 0 ≤ i) (hl : a.length ≤ 1000000) (h : P (txt (a.take i.toNat)) S) : Sat (fSl none (some i) (txt a) S) P := s_sl_s hl (by rw [cut_toI h0]; exact h)
theorem s_from_s (h0 : 0 ≤ i) (hl : a.length ≤ 1000000) (h : P (txt (a.drop i.toNat)) S) : Sat (fSl (some i) none (txt a) S) P := s_sl_s hl (by rw [cut_fromI h0]; exact h)
theorem s_to_t (h0 : 0 ≤ i) (h : P (.tup (xs.take i.toNat)) S) : Sat (fSl none (some i) (.tup xs) S) P := s_sl_t (by rw [cut_toI h0]; exact h)
theorem s_from_t (h0 : 0 ≤ i) (h : P (.tup (xs.drop i.toNat)) S) : Sat (fSl (some i) none (.tup xs) S) P := s_sl_t (by rw [cut_fromI h0]; exact h)
theorem s_to_l (h0 : 0 ≤ i) (h : P (.lst (xs.take i.toNat)) S) : Sat (fSl none (some i) (.lst xs) S) P := s_sl_l (by rw [cut_toI h0]; exact h)
theorem s_from_l (h0 : 0 ≤ i) (h : P (.lst (xs.drop i.toNat)) S) : Sat (fSl (some i) none (.lst xs) S) P := s_sl_l (by rw [cut_fromI h0]; exact h)
theorem s_to_c (h0 : 0 ≤ i) (h : P (.lst (xs.take i.toNat)) S) : Sat (fSl none (some i) (.scr xs) S) P := s_sl_c (by rw [cut_toI h0]; exact h)
theorem turn_nx {next : En → Sto → Prop} {Q : Fl → Sto → Prop} {ds : En} (h : next ds S) : Turn next Q (.nx ds) S := h
theorem turn_rt {next : En → Sto → Prop} {Q : Fl → Sto → Prop} {d : D} (h : Q (.rt d) S) : Turn next Q (.rt d) S := h
theorem ret_rt {d : D} (h : P d S) : Ret P (.rt d) S := h
theorem ret_nx {ds : En} (h : P .non S) : Ret P (.nx ds) S := h
theorem len1 {n : Nat} {Q : Prop} {xs : List D} (e : xs.length = n) (h : Q) : xs.length = n ∧ Q := ⟨e, h⟩
end
end Pv

/-! Pv20: defs with *args alone. -/
namespace Pv
open PySem PySem.Spec PyProof.Rows L2
/-- the run of a def that takes any number of values -/
def RunsV (P : Program) (w : World) (K : PySem.W.Frag) (mg : Str → Option Value) (base : Heap) (k : Nat) (f : Addr) (m : DM) : Prop :=
  ∀ (A : Around) (outer : List Env) (s : Shared) (H : Hp) (us : List Value) (vs : List V) (Q : VK) (Z ρ : List Addr) (S : Sto) (ds : List D),
    Room k A → A.guards = some [] → Env0 P w K mg base A outer s H → Vals vs us → Ok K Z ρ S H → IsAll K Z ρ H vs ds → MP (m ds S) (Pt K Z ρ H Q) No →
    codeAny (model P w) A (.call (.ref f) ⟨us, []⟩) (CR CX0 outer P w H s Q E0) s
/-- all of them as one tuple -/
def mStar (m : DM) : DM := fun ds => if ds.length ≤ 1000000 then m [.tup ds] else stuck
section
variable {P : Program} {w : World} {K : PySem.W.Frag} {mg : Str → Option Value} {base : Heap} {x qual pv : Str} {params : Arguments} {body : List Stmt} {scope : Scope} {f : Addr} {fd : FuncData} {N : List Str} {k : Nat} {m : SM}
theorem runsV (F : FunD K x qual params body scope [] [] f fd) (S : FnScope N [pv] scope)
    (hb : ∀ (kV doc pm : Value) (an : Option Addr) (cdv ct : Value) (us : List Value), bindArgs (PySem.W.fnOf x qual params body scope .none kV doc pm an cdv ct) ⟨us, []⟩ = (newTuple us >>= fun t => pure [(pv, t)]))
    (hbody : ∀ (cdv : Value) (A : Around) (outer : List Env) (s : Shared) (H : Hp), Room k (A.deeper (envOfC qual scope s.heap.objs.size f cdv)) → (A.deeper (envOfC qual scope s.heap.objs.size f cdv)).guards = some [] →
      PSsm (cxOf CX0 P w K mg base N qual scope f cdv A outer s H E0).nox (W0 K) body m) : RunsV P w K mg base (k + 1) f (mStar (mFnT N.length m)) := by
  obtain ⟨oc, od, dV, kV, doc, pm, an, cdv, ct, osl, rfl, lk, hcd, hd, _⟩ := F.ex
  obtain rfl : dV = .none := hd.elim (fun z => z.2) fun z => absurd rfl z.1
  intro A outer s H us vs Q Z ρ St ds hr hg e0 r k0 i0 h
  unfold mStar at h
  by_cases hz : ds.length ≤ 1000000
  · rw [if_pos hz] at h
    have hl : vs.length ≤ sizeLine := by rw [i0.length]; exact sz hz
    have hn : H s.heap.objs.size = Option.none := e0.hok.fresh (Nat.le_refl _)
    refine StX.run_bnd lk hcd S hr e0 (G := fun xs H2 => xs = [V.ref s.heap.objs.size] ∧ H2 = upd H s.heap.objs.size (.tup vs)) (fun A' Ex Q' hq => ?_) fun s2 H2 xs ⟨ex, eH⟩ hr2 => ?_
    · rw [hb kV doc pm an cdv ct us]
      refine wpAny_bind (wpAny_newTuple (wpAny_pure ?_) (by rw [← r.length]; exact hl))
      have new : ObjOk P w (upd H s.heap.objs.size (.tup vs)) (s.heap.push ({ cls := .type "tuple", data := .seq us.toArray } : Obj)) s.heap.objs.size (.tup vs) := ⟨hl, us, r, ⟨_, Heap.get?_push_size _ rfl, rfl, _, rfl⟩⟩
      exact hq _ _ [V.ref s.heap.objs.size] [Value.ref s.heap.objs.size] (StX.env0_laid e0 new) (StX.un_laid hn) rfl (fun _ _ z => z) (.cons rfl .nil) rfl ⟨rfl, rfl⟩
    · subst ex eH
      have e1 := ext_new (ρ := ρ) (o := HO.tup vs) hn
      have k1 := k0.new (o := HO.tup vs) hn
      have h' := (h.imp (P' := Pt K Z ρ (upd H s.heap.objs.size (.tup vs)) Q) (E' := No) (fun _ _ z => z.up e1) fun _ _ _ z => z).fnT k1.len
      refine ⟨tS K (W0 K) m, PSs.nox (hbody cdv A outer s2 _ hr2 hg), Z, ρ, St, stD N.length [.tup ds], ⟨k1, envIs_start (.cons (new_tup k0 hn i0) .nil)⟩, (MP.bind h').imp (fun fl S1 q => ?_) fun _ _ _ z => z⟩
      cases fl with
      | nx ds1 => exact fun ρ1 H1 σ1 e1 t1 => (MP.pure q : Pt _ _ _ _ _ _ _) ρ1 H1 .non e1 t1.ok .non
      | bk ds1 => exact q.elim
      | ct ds1 => exact q.elim
      | rt d => exact (MP.pure q : Pt _ _ _ _ _ _ _)
      | ex c v ds1 => exact q.elim
  · rw [if_neg hz] at h; exact h.elim
end
/-- such a def of the module's top by its name -/
structure HasV (P : Program) (w : World) (K : PySem.W.Frag) (mg : Str → Option Value) (base : Heap) (k : Nat) (x : Str) (m : DM) : Prop where
  ex : ∃ f, PySem.W.keepIn K (.ref f) = true ∧ mg x = some (.ref f) ∧ RunsV P w K mg base k f m
section
variable {X : Cx} {k j : Nat} {x : Str} {m : DM} {W : Wsh X.K} {p pos : Pos} {e : Expr} {es : List Expr} {ms : AM}
def mAppV (ms : AM) (m : DM) : EM := fun ds => ms ds >>= fun xs => M.cl (m xs)
theorem em_callV (c : HasV X.prog X.w X.K X.mg X.base k x m) (ft : Fit X j) (hk : k ≤ j) (hg : Gl X x) (ha : PAm X W (e :: es) ms) (hdb : (x == ("__debug__" : Str)) = false := by decide)
    (he : starEach (e :: es) X.env = (false, eval e X.env) :: starEach es X.env := by rfl) (hpl : (backTo pos (starEach es X.env)).any (·.1) = false := by rfl) :
    PEm X W (.Call (.Name x p) (e :: es) [] pos) (mAppV ms m) := by
  obtain ⟨f, kp, hm, R⟩ := c.ex
  refine ⟨fun pins s σ H Q I h => wpAny_Call_Name_kw (ld_glob I hg hm ?_ hdb)⟩
  have h2 : tA X.K W ms σ H fun vs H1 => ∃ Z ρ S ds, Ok X.K Z ρ S H1 ∧ IsAll X.K Z ρ H1 vs ds ∧ MP (m ds S) (Pt X.K Z ρ H1 Q) No := by
    obtain ⟨Z, ρ, S, ds, t, h⟩ := h
    exact tA_bind t h fun xs S1 ρ1 H1 vs e1 t1 i q => ⟨Z, ρ1, S1, xs, t1.ok, i, MP.cl (q.imp (fun _ _ z => z.up e1) fun _ _ _ z => z)⟩
  refine PySem.W.callWith_K (h₀ := X.base) I.ok.mod.kin kp (thn (ha.run pos pins s σ H _ I h2) fun us s1 ⟨vs, H1, I1, r, Z, ρ, S, ds, k0, i0, q⟩ => ⟨I1.kIn, ?_⟩) he hpl
  refine wpAny_call (codeAny_mono (R X.A X.stack s1 H1 us vs Q Z ρ S ds (ft.room.mono hk) ft.grd I1.env0 r k0 i0 q) fun z s' hq => ?_)
  cases z with
  | error e => exact hq.elim
  | ok fl =>
    cases fl with
    | ret u => exact I1.after hq
    | next => exact hq.elim
    | brk => exact hq.elim
    | cont => exact hq.elim
end
section
variable {S : Sto} {ds : En} {ms : AM} {P : D → Sto → Prop} {m : DM} {xs : List D}
theorem ev_appV (h : Ev (ms ds S) fun xs S1 => Ev (m xs S1) P) : Ev (mAppV ms m ds S) P := ev_bind (h.imp fun xs S1 h => ev_cl h)
theorem ev_star (hl : xs.length ≤ 1000000) (h : Ev (m [.tup xs] S) P) : Ev (mStar m xs S) P := by
  unfold mStar
  rw [if_pos hl]
  exact h
end
end Pv

/-! Pv21: min of a list of alike data. -/
namespace Pv
open PySem PySem.Spec PyProof.Rows L2 PySem.W
def rMinD (K : PySem.W.Frag) : List V → Hp → VK → Prop := fun vs H Q => ∃ (a : Addr) (xs : List V) (p : PyData) (ps : List PyData), vs = [.ref a] ∧ SqL K H a xs ∧ DpAll K H xs (p :: ps) ∧ AlikeAll (p :: ps) ∧ PyData.depthAll (p :: ps) ≤ 60 ∧
  ∀ (i : Nat) (v : V), xs[i]? = some v → (p :: ps)[i]? = some (minD p ps) → Q v H
theorem dp_at {K : PySem.W.Frag} {H : Hp} : ∀ {xs : List V} {ps : List PyData} {i : Nat} {v : V}, DpAll K H xs ps → xs[i]? = some v → ∃ p, ps[i]? = some p ∧ Dp K H v p
  | _, _, i, v, .nil, e => by simp at e
  | _, _, 0, v, .cons h _, e => by simp at e; subst e; exact ⟨_, rfl, h⟩
  | _, _, i + 1, v, .cons _ r, e => by
    obtain ⟨p, a, b⟩ := dp_at (i := i) r (by simpa using e)
    exact ⟨p, by simpa using a, b⟩
theorem cr_minD {X : Cx} (hc : X.calm = true) (hu : X.A.units + 64 < cLine) : CallR X (.builtin "min") (rMinD X.K) := by
  intro pins s σ H vs us Q I r h
  obtain ⟨a, xs, p, ps, rfl, hs, hd, ha, hdep, q⟩ := h
  obtain ⟨its, rv, hl, _⟩ := I.list hs
  rw [Vals.ref1 r]
  obtain ⟨as, hr⟩ := Dp.readsAll I (p :: ps) _ its hd rv
  refine min_list_data (I.ok.hd hc) hl.isList hr ha (by omega) fun i u h' tk bs hi hm hk => ?_
  have hi' : its[i]? = some u := by simpa using hi
  obtain ⟨v, hv, rvu⟩ : ∃ v, xs[i]? = some v ∧ RelV v u := by
    have hl := rv.length
    have hlt : i < xs.length := by rw [hl]; exact (List.getElem?_eq_some_iff.mp hi').1
    obtain ⟨u', hu', ru⟩ := rv.get (List.getElem?_eq_getElem hlt)
    rw [hi'] at hu'
    cases hu'
    exact ⟨_, List.getElem?_eq_getElem hlt, ru⟩
  obtain ⟨p', hp', dv⟩ := dp_at hd hv
  obtain ⟨cs, rd⟩ := Dp.reads I p' v u dv rvu
  have e := (Reads.unique (reads_keeps hk rd) _ _ hm).1
  exact ⟨v, H, I.kept hk, rvu, q i v hv (by rw [hp', e])⟩
mutual
theorem toPy_inj : ∀ {d e : D} {p : PyData}, toPy d = some p → toPy e = some p → d = e
  | .non, e, p, h, h' => by
    cases h
    cases e <;> simp [toPy] at h'
    · rfl
  | .bl b, e, p, h, h' => by
    cases h
    cases e <;> simp [toPy] at h'
    · rw [h']
  | .int b, e, p, h, h' => by
    cases h
    cases e <;> simp [toPy] at h'
    · rw [h']
  | .str b, e, p, h, h' => by
    cases h
    cases e <;> simp [toPy] at h'
    · rw [h']
  | .tup xs, e, p, h, h' => by
    obtain ⟨ps, e1, rfl⟩ := mapS (show (toPyAll xs).map PyData.tuple = some p from h)
    cases e <;> simp [toPy] at h'
    · rename_i ys
      rw [toPyAll_inj e1 h']
  | .lst xs, e, p, h, h' => by
    obtain ⟨ps, e1, rfl⟩ := mapS (show (toPyAll xs).map PyData.list = some p from h)
    cases e <;> simp [toPy] at h'
    · rename_i ys
      rw [toPyAll_inj e1 h']
  | .cell _, _, _, h, _ => by cases h
  | .ty _, _, _, h, _ => by cases h
  | .scr _, _, _, h, _ => by cases h
  | .oth _ _, _, _, h, _ => by cases h
theorem toPyAll_inj : ∀ {xs ys : List D} {ps : List PyData}, toPyAll xs = some ps → toPyAll ys = some ps → xs = ys
  | [], ys, ps, h, h' => by
    cases h
    cases ys with
    | nil => rfl
    | cons y ys =>
      simp only [toPyAll] at h'
      split at h' <;> cases h'
  | x :: xs, ys, ps, h, h' => by
    simp only [toPyAll] at h
    split at h
    · rename_i p qs e1 e2
      cases h
      cases ys with
      | nil => cases h'
      | cons y ys =>
        simp only [toPyAll] at h'
        split at h'
        · rename_i p' qs' e1' e2'
          cases h'
          rw [toPy_inj e1 e1', toPyAll_inj e2 e2']
        · cases h'
    · cases h
end
def dlt (a b : D) : Bool := match toPy a, toPy b with
  | some p, some q => dataLt p q
  | _, _ => false
def minDD (d : D) (ds : List D) : D := ds.foldl (fun a y => if dlt y a then y else a) d
theorem minDD_py : ∀ {ds : List D} {ps : List PyData} {d : D} {p : PyData}, toPy d = some p → toPyAll ds = some ps → toPy (minDD d ds) = some (minD p ps)
  | [], ps, d, p, h, h' => by cases h'; exact h
  | x :: xs, ps, d, p, h, h' => by
    simp only [toPyAll] at h'
    split at h'
    · rename_i q qs e1 e2
      cases h'
      show toPy (minDD (if dlt x d then x else d) xs) = some (minD (if dataLt q p then q else p) qs)
      have e : dlt x d = dataLt q p := by unfold dlt; rw [e1, h]
      rw [e]
      refine minDD_py ?_ e2
      split
      · exact e1
      · exact h
    · cases h'
mutual
/-- of one shape -/
def shp : PyData → PyData → Bool
  | .none, .none => true
  | .bool _, .bool _ => true
  | .int _, .int _ => true
  | .str _, .str _ => true
  | .list xs, .list ys => shpAll xs ys
  | .tuple xs, .tuple ys => shpAll xs ys
  | _, _ => false
def shpAll : List PyData → List PyData → Bool
  | x :: xs, y :: ys => shp x y && shpAll xs ys
  | [], [] => true
  | _, _ => false
end
mutual
theorem shp_alike : ∀ (p x y : PyData), shp p x = true → shp p y = true → alike x y = true
  | .none, x, y, h, h' => by
    cases x <;> first | (cases h; done) | skip
    cases y <;> first | (cases h'; done) | rfl
  | .bool _, x, y, h, h' => by
    cases x <;> first | (cases h; done) | skip
    cases y <;> first | (cases h'; done) | rfl
  | .int _, x, y, h, h' => by
    cases x <;> first | (cases h; done) | skip
    cases y <;> first | (cases h'; done) | rfl
  | .str _, x, y, h, h' => by
    cases x <;> first | (cases h; done) | skip
    cases y <;> first | (cases h'; done) | rfl
  | .list ps, x, y, h, h' => by
    cases x with
    | list xs => cases y with
      | list ys => exact shp_alikeAll ps xs ys h h'
      | _ => cases h'
    | _ => cases h
  | .tuple ps, x, y, h, h' => by
    cases x with
    | tuple xs => cases y with
      | tuple ys => exact shp_alikeAll ps xs ys h h'
      | _ => cases h'
    | _ => cases h
  | .dict _, x, y, h, h' => by cases x <;> cases h
theorem shp_alikeAll : ∀ (ps xs ys : List PyData), shpAll ps xs = true → shpAll ps ys = true → alikeAll xs ys = true
  | [], [], [], _, _ => rfl
  | [], _ :: _, _, h, _ => by cases h
  | [], [], _ :: _, _, h => by cases h
  | _ :: _, [], _, h, _ => by cases h
  | _ :: _, _ :: _, [], _, h => by cases h
  | p :: ps, x :: xs, y :: ys, h, h' => by
    have h1 := (Bool.and_eq_true _ _).mp (show (shp p x && shpAll ps xs) = true from h)
    have h2 := (Bool.and_eq_true _ _).mp (show (shp p y && shpAll ps ys) = true from h')
    show (alike x y && alikeAll xs ys) = true
    rw [shp_alike p x y h1.1 h2.1, shp_alikeAll ps xs ys h1.2 h2.2]; rfl
end
def alkQ : List PyData → Bool
  | [] => true
  | p :: ps => (match p with | .none => false | _ => true) && (p :: ps).all fun x => shp p x
def alkOld (ps : List PyData) : Bool := (ps.all fun x => ps.all fun y => alike x y) && ps.all fun x => match x with | .none => false | _ => true
/-- all of one shape (soon seen), or each like each -/
def alkAll (ps : List PyData) : Bool := alkQ ps || alkOld ps
def fMinT : FA := fun xs S => match xs with
  | [x] => match vw S x with
    | .lst (d :: ds) => match toPyAll (d :: ds) with
      | some ps => if (alkAll ps && decide (PyData.depthAll ps ≤ 60)) = true then some (minDD d ds, S) else none
      | none => none
    | _ => none
  | _ => none
theorem alk_of {ps : List PyData} (h : alkAll ps = true) : AlikeAll ps := by
  unfold alkAll at h
  rw [Bool.or_eq_true] at h
  rcases h with h | h
  · cases ps with
    | nil => exact ⟨fun x hx => (by cases hx), fun x hx => (by cases hx)⟩
    | cons p ps =>
      unfold alkQ at h
      rw [Bool.and_eq_true] at h
      have hs := List.all_eq_true.mp h.2
      refine ⟨fun x hx y hy => shp_alike p x y (hs x hx) (hs y hy), fun x hx e => ?_⟩
      have h1 := hs x hx
      rw [e] at h1
      cases p <;> first | (cases h1; done) | (cases h.1; done)
  · unfold alkOld at h
    rw [Bool.and_eq_true, List.all_eq_true, List.all_eq_true] at h
    exact ⟨fun x hx y hy => List.all_eq_true.mp (h.1 x hx) y hy, fun x hx e => by have := h.2 x hx; rw [e] at this; cases this⟩
theorem toPyAll_cons {d : D} {ds : List D} {ps : List PyData} (h : toPyAll (d :: ds) = some ps) : ∃ p qs, ps = p :: qs ∧ toPy d = some p ∧ toPyAll ds = some qs := by
  simp only [toPyAll] at h
  split at h
  · rename_i p qs e1 e2
    cases h
    exact ⟨p, qs, rfl, e1, e2⟩
  · cases h
theorem toPyAll_get : ∀ {ds : List D} {ps : List PyData} {i : Nat} {d : D} {p : PyData}, toPyAll ds = some ps → ds[i]? = some d → ps[i]? = some p → toPy d = some p
  | [], _, i, d, p, _, e, _ => by simp at e
  | x :: xs, ps, 0, d, p, h, e, e2 => by
    obtain ⟨q, qs, rfl, h1, h2⟩ := toPyAll_cons h
    simp at e e2
    subst e e2
    exact h1
  | x :: xs, ps, i + 1, d, p, h, e, e2 => by
    obtain ⟨q, qs, rfl, h1, h2⟩ := toPyAll_cons h
    exact toPyAll_get h2 (by simpa using e) (by simpa using e2)
def rMinB (K : PySem.W.Frag) : List V → Hp → VK → Prop := fun xs H Q => rMinA K xs H Q ∨ rMinD K xs H Q
/-- ints as before, else alike data -/
def fMinB : FA := fun xs S => match fMin xs S with
  | some r => some r
  | none => fMinT xs S
theorem cd_minB (K : PySem.W.Frag) : CallD K (rMinB K) fMinB := by
  intro Z ρ S S' H xs ds d Q k i h q
  unfold fMinB at h
  split at h
  · rename_i r e
    cases h
    exact .inl (cd_min K Z ρ S S' H xs ds d Q k i e q)
  · unfold fMinT at h
    split at h
    · rename_i x
      split at h
      · rename_i y ys e5
        split at h
        · rename_i ps e6
          obtain ⟨hc, e7⟩ := of_if h
          cases e7
          rw [Bool.and_eq_true, decide_eq_true_eq] at hc
          obtain ⟨v, rfl, iv⟩ := is1 i
          obtain ⟨a, vs, rfl, hl, r⟩ := vw_lst k iv e5
          obtain ⟨p, qs, rfl, h1, h2⟩ := toPyAll_cons e6
          refine .inr ⟨a, vs, p, qs, rfl, hl, r.dp e6, alk_of hc.1, hc.2, fun j u hu hp => ?_⟩
          obtain ⟨du, hdu, iu⟩ := r.getV hu
          have e8 := toPyAll_get e6 hdu hp
          have e9 := toPy_inj e8 (minDD_py h1 h2)
          rw [← e9] at q
          exact q.val k iu
        · cases h
      · cases h
    · cases h
theorem CallR.orB {X : Cx} {f : Value} {r r' : List V → Hp → VK → Prop} (h : CallR X f r) (h' : CallR X f r') : CallR X f (fun xs H Q => r xs H Q ∨ r' xs H Q) := CallR.or h h'
theorem b_minB {X : Cx} {j : Nat} (ft : Fit X j) (hm : X.mg "min" = none) (hc : X.calm = true := by rfl) : Blt X "min" fMinB := ⟨hm, by decide, by decide, _, cd_minB _, .inl ⟨_, rfl, CallR.orB (cr_minA hc) (cr_minD hc ft.room.units)⟩⟩
end Pv

/-! Pv22: dicts by data: keys, in, d[k], get, len. -/
namespace Pv
open PySem PySem.Spec PyProof.Rows L2
/-! ### keys -/
def keyOf : D → Option Key
  | .int i => some (.inl i)
  | .str x => some (.inr x)
  | _ => none
def keyD : Key → D
  | .inl i => .int i
  | .inr x => .str x
def keysOf : List D → Option (List Key)
  | [] => some []
  | x :: xs => match keyOf x, keysOf xs with
    | some k, some ks => some (k :: ks)
    | _, _ => none
def hasK (ks : List Key) (k : Key) : Bool := ks.any fun j => decide (j = k)
def lookK : List Key → List D → Key → Option D
  | j :: ks, d :: ds, k => if j = k then some d else lookK ks ds k
  | _, _, _ => none
section
variable {K : PySem.W.Frag} {Z ρ : List Addr} {S : Sto} {H : Hp} {v : V} {d : D} {vs : List V} {ds : List D} {ks : List Key} {k : Key}
theorem keyOf_is (i : Is K Z ρ H v d) (e : keyOf d = some k) : v = kV k := by
  cases i <;> cases e <;> rfl
theorem is_keyD (k : Key) : Is K Z ρ H (kV k) (keyD k) := by
  cases k with
  | inl i => exact .int i
  | inr x => exact .str x
theorem keysOf_is : ∀ {vs : List V} {ds : List D} {ks : List Key}, IsAll K Z ρ H vs ds → keysOf ds = some ks → vs = ks.map kV
  | _, _, _, .nil, e => by cases e; rfl
  | _, _, _, .cons (d := d) (ds := ds) i r, e => by
    unfold keysOf at e
    split at e
    · rename_i k ks e1 e2
      cases e
      rw [keyOf_is i e1, keysOf_is r e2]; rfl
    · cases e
theorem is_keyDs : ∀ ks : List Key, IsAll K Z ρ H (ks.map kV) (ks.map keyD)
  | [] => .nil
  | k :: ks => .cons (is_keyD k) (is_keyDs ks)
theorem lookK_is : ∀ {ks : List Key} {vs : List V} {ds : List D} {k : Key} {d : D}, IsAll K Z ρ H vs ds → lookK ks ds k = some d → ∃ v, valV (ks.zip vs) k = some v ∧ Is K Z ρ H v d
  | [], _, _, _, _, _, e => by cases e
  | j :: ks, _, _, _, _, .nil, e => by cases e
  | j :: ks, _, _, k, d, .cons (v := v) i r, e => by
    unfold lookK at e
    by_cases h : j = k
    · rw [if_pos h] at e
      cases e
      exact ⟨v, valV_pos (p := (j, v)) h, i⟩
    · rw [if_neg h] at e
      obtain ⟨w, e1, i1⟩ := lookK_is r e
      exact ⟨w, (valV_neg (p := (j, v)) h).trans e1, i1⟩
theorem lookK_none : ∀ {ks : List Key} {vs : List V} {ds : List D} {k : Key}, IsAll K Z ρ H vs ds → ks.length = vs.length → lookK ks ds k = none → valV (ks.zip vs) k = none
  | [], _, _, _, _, _, _ => rfl
  | j :: ks, _, _, _, .nil, l, _ => by simp at l
  | j :: ks, _, _, k, .cons (v := v) i r, l, e => by
    unfold lookK at e
    by_cases h : j = k
    · rw [if_pos h] at e; cases e
    · rw [if_neg h] at e
      exact (valV_neg (p := (j, v)) h).trans (lookK_none r (by simpa using l) e)
theorem hasK_is : ∀ {ks : List Key} {vs : List V} {k : Key}, ks.length = vs.length → (valV (ks.zip vs) k).isSome = hasK ks k
  | [], _, _, _ => rfl
  | j :: ks, [], _, l => by simp at l
  | j :: ks, v :: vs, k, l => by
    unfold hasK
    rw [List.any_cons]
    by_cases h : j = k
    · rw [show (j :: ks).zip (v :: vs) = (j, v) :: ks.zip vs from rfl, valV_pos (p := (j, v)) h, decide_eq_true h]; rfl
    · rw [show (j :: ks).zip (v :: vs) = (j, v) :: ks.zip vs from rfl, valV_neg (p := (j, v)) h, decide_eq_false h, Bool.false_or]
      exact hasK_is (by simpa using l)
/-- what shows as a dict -/
theorem vw_dk (o : Ok K Z ρ S H) (i : Is K Z ρ H v d) (e : vw S d = .oth (.dk ks) ds) : ∃ a vs, v = .ref a ∧ ks.length = vs.length ∧ Rd H a (.dK (ks.zip vs)) ∧ IsAll K Z ρ H vs ds := by
  cases i with
  | oth h r =>
    cases e
    obtain ⟨G, ⟨hl, u, rfl, hu⟩, q⟩ := h.ex
    have q1 := (q _ List.mem_cons_self).1
    refine ⟨_, _, rfl, hl, ?_, r⟩
    rcases hu with rfl | ⟨o, rfl⟩
    · exact .inl q1
    · exact .inr ⟨o, q1⟩
  | cell h =>
    rename_i a n
    simp only [vw] at e
    cases q : S[n]? with
    | none => rw [q] at e; cases e
    | some c =>
      rw [q] at e
      cases c with
      | lst es => cases e
      | lkl es => cases e
      | oth t es =>
        cases e
        obtain ⟨vs, h1, w, r⟩ := o.cellO h q
        exact ⟨a, vs, rfl, w, .inl h1, r⟩
      | lck t es =>
        cases e
        obtain ⟨vs, ⟨⟨ob, h1⟩, w⟩, r⟩ := o.cell n a _ h q
        exact ⟨a, vs, rfl, w, .inr ⟨ob, h1⟩, r⟩
  | _ => cases e
end
/-! ### in, not in -/
section
variable {X : Cx}
def rInD (n : Bool) : R2 := fun x y H Q => ∃ (a : Addr) (k : Key) (kvs : List (Key × V)), x = kV k ∧ y = .ref a ∧ Rd H a (.dK kvs) ∧ Q (.bl (n ^^ (valV kvs k).isSome)) H
theorem op_inD (hu : X.A.units + 1 < cLine) : OpR X (compareOp .In) (rInD false) := by
  rintro pins s σ H x y v u Q I rx ry ⟨a, k, kvs, rfl, rfl, hd, q⟩
  obtain rfl : u = Value.ref a := ry
  exact d_in hu I (.inl ⟨kvs, k, hd, rfl, rfl⟩) rx fun s1 I1 => ⟨.bl _, H, I1, rfl, by simpa using q⟩
theorem op_notInD (hu : X.A.units + 1 < cLine) : OpR X (compareOp .NotIn) (rInD true) := by
  rintro pins s σ H x y v u Q I rx ry ⟨a, k, kvs, rfl, rfl, hd, q⟩
  obtain rfl : u = Value.ref a := ry
  exact d_notIn hu I (.inl ⟨kvs, k, hd, rfl, rfl⟩) rx fun s1 I1 => ⟨.bl _, H, I1, rfl, by simpa using q⟩
end
def fInA : F2 := fun x y S => match vw S y with
  | .oth (.dk ks) _ => match keyOf x with
    | some k => some (.bl (hasK ks k), S)
    | none => none
  | _ => fIn x y S
def fNotInA : F2 := fun x y S => match vw S y with
  | .oth (.dk ks) _ => match keyOf x with
    | some k => some (.bl (!hasK ks k), S)
    | none => none
  | _ => fNotIn x y S
theorem od_inA (K : PySem.W.Frag) : OpD K (fun x y H Q => rInA K false x y H Q ∨ rInD false x y H Q) fInA := by
  intro Z ρ S S' H x y dx dy d Q k ix iy h q
  unfold fInA at h
  split at h
  · rename_i ks ds e
    split at h
    · rename_i j ej
      cases h
      obtain ⟨a, vs, rfl, hl, hd, r⟩ := vw_dk k iy e
      exact .inr ⟨a, j, _, keyOf_is ix ej, rfl, hd, by rw [Bool.false_xor, hasK_is hl]; exact q.val k (.bl _)⟩
    · cases h
  · exact .inl (od_in K Z ρ S S' H x y dx dy d Q k ix iy h q)
theorem od_notInA (K : PySem.W.Frag) : OpD K (fun x y H Q => rInA K true x y H Q ∨ rInD true x y H Q) fNotInA := by
  intro Z ρ S S' H x y dx dy d Q k ix iy h q
  unfold fNotInA at h
  split at h
  · rename_i ks ds e
    split at h
    · rename_i j ej
      cases h
      obtain ⟨a, vs, rfl, hl, hd, r⟩ := vw_dk k iy e
      exact .inr ⟨a, j, _, keyOf_is ix ej, rfl, hd, by rw [Bool.true_xor, hasK_is hl]; exact q.val k (.bl _)⟩
    · cases h
  · exact .inl (od_notIn K Z ρ S S' H x y dx dy d Q k ix iy h q)
section
variable {X : Cx} {j : Nat}
theorem c_inA (ft : Fit X j) : Cmp X .In fInA := ⟨_, (or_in ft.u65).or (op_inD (by have := ft.u65; omega)), od_inA _⟩
theorem c_notInA (ft : Fit X j) : Cmp X .NotIn fNotInA := ⟨_, (or_notIn ft.u65).or (op_notInD (by have := ft.u65; omega)), od_notInA _⟩
end
/-! ### d[k] -/
def fIxA : F2 := fun x y S => match vw S x with
  | .oth (.dk ks) ds => match keyOf y with
    | some k => (lookK ks ds k).map fun d => (d, S)
    | none => none
  | _ => fIx x y S
section
variable {X : Cx} {W : Wsh X.K} {a b : Expr} {ma mb : EM} {pos : Pos} {j : Nat}
theorem PE.or {e : Expr} {t1 t2 : TE} (h1 : PE X e t1) (h2 : PE X e t2) : PE X e (fun σ H Q => t1 σ H Q ∨ t2 σ H Q) := ⟨fun pins s σ H Q I q => q.elim (h1.run pins s σ H Q I) (h2.run pins s σ H Q I)⟩
theorem em_ixA (ft : Fit X j) (ha : PEm X W a ma) (hb : PEm X W b mb) (hs : PlainIx b) (hn : NoSl b) : PEm X W (.Subscript a b pos) (mBin fIxA ma mb) := by
  refine PE.imp (PE.or (em_ix ha hb hs) (pe_dget (by have := ft.u65; omega) ha hb hn)) fun σ H Q ⟨Z, ρ, S, ds, t, h⟩ => ?_
  have h' := MP.bind h
  cases q1 : ma ds S with
  | no => rw [q1] at h'; exact h'.elim
  | exc c v S1 =>
    rw [q1] at h'
    refine .inl ⟨Z, ρ, S, ds, t, ?_⟩
    show MP (M.bind (ma ds) _ S) _ _
    unfold M.bind
    rw [q1]
    exact h'
  | ok x S1 =>
    rw [q1] at h'
    have h2 := MP.bind h'
    cases q2 : mb ds S1 with
    | no => rw [q2] at h2; exact h2.elim
    | exc c v S2 =>
      rw [q2] at h2
      refine .inl ⟨Z, ρ, S, ds, t, ?_⟩
      show MP (M.bind (ma ds) _ S) _ _
      unfold M.bind
      rw [q1]
      show MP (M.bind (mb ds) _ S1) _ _
      unfold M.bind
      rw [q2]
      exact h2
    | ok y S2 =>
      rw [q2] at h2
      by_cases hd : ∃ ks es, vw S2 x = .oth (.dk ks) es
      · obtain ⟨ks, es, e⟩ := hd
        refine .inr ?_
        refine ⟨Z, ρ, S, ds, t, ?_⟩
        rw [q1]
        intro ρ1 H1 v1 e1 k1 i1
        refine ⟨Z, ρ1, S1, ds, t.up e1 k1, ?_⟩
        rw [q2]
        intro ρ2 H2 v2 e2 k2 i2
        obtain ⟨d, S3, e3, q3⟩ := MP.lift h2
        have e3' : (match keyOf y with
          | some k => (lookK ks es k).map fun d => (d, S2)
          | none => none) = some (d, S3) := by
          have e4 := e3
          unfold fIxA at e4
          rw [e] at e4
          exact e4
        split at e3'
        · rename_i k ek
          obtain ⟨d', e5, e6⟩ := mapS e3'
          cases e6
          obtain ⟨p, vs, rfl, hl, hd, r⟩ := vw_dk k2 (i1.mono k1 e2) e
          obtain ⟨v, e7, iv⟩ := lookK_is r e5
          refine ⟨p, v, rfl, .inl ⟨_, k, hd, keyOf_is i2 ek, e7.symm⟩, ?_⟩
          exact (q3 : Pt _ _ _ _ _ _ _) ρ2 H2 v (e1.trans e2) k2 iv
        · cases e3'
      · refine .inl ⟨Z, ρ, S, ds, t, ?_⟩
        show MP (M.bind (ma ds) _ S) _ _
        unfold M.bind
        rw [q1]
        show MP (M.bind (mb ds) _ S1) _ _
        unfold M.bind
        rw [q2]
        have e4 : fIxA x y S2 = fIx x y S2 := by
          unfold fIxA
          split
          · rename_i ks es e; exact absurd ⟨ks, es, e⟩ hd
          · rfl
        have h3 : MP (M.lift (fIxA x y) S2) (Pt X.K Z ρ H Q) (W.P Z ρ H σ ds) := h2
        show MP (M.lift (fIx x y) S2) (Pt X.K Z ρ H Q) (W.P Z ρ H σ ds)
        unfold M.lift at h3 ⊢
        rw [e4] at h3
        exact h3
end
/-! ### len -/
def fLenA : FA := fun xs S => match xs with
  | [x] => match vw S x with
    | .oth (.dk ks) _ => some (.int ks.length, S)
    | _ => fLen xs S
  | _ => none
def rLenD : List V → Hp → VK → Prop := fun xs H Q => ∃ (a : Addr) (kvs : List (Key × V)), xs = [.ref a] ∧ Rd H a (.dK kvs) ∧ Q (.int kvs.length) H
theorem cr_lenD {X : Cx} : CallR X (.builtin "len") rLenD := by
  rintro pins s σ H xs us Q I r ⟨a, kvs, rfl, hd, q⟩
  obtain ⟨u, rfl, rx⟩ := vals1 r
  obtain rfl : u = Value.ref a := rx
  exact d_len I hd fun t s1 I1 => ⟨.int _, H, I1, ⟨t, rfl⟩, q⟩
theorem cd_lenA (K : PySem.W.Frag) : CallD K (fun xs H Q => (∃ x n, xs = [x] ∧ LenV K x H n ∧ Q (.int n) H) ∨ rLenD xs H Q) fLenA := by
  intro Z ρ S S' H xs ds d Q k i h q
  unfold fLenA at h
  split at h
  · obtain ⟨v, rfl, iv⟩ := is1 i
    split at h
    · rename_i ks es e
      cases h
      obtain ⟨a, vs, rfl, hl, hd, r⟩ := vw_dk k iv e
      refine .inr ⟨a, _, rfl, hd, ?_⟩
      have : (ks.zip vs).length = ks.length := by rw [List.length_zip, hl, Nat.min_self]
      rw [this]
      exact q.val k (.int _)
    · exact .inl (cd_len K Z ρ S S' H [v] _ d Q k i h q)
  · cases h
theorem b_lenA {X : Cx} (hm : X.mg "len" = none) : Blt X "len" fLenA := ⟨hm, by decide, by decide, _, cd_lenA _, .inl ⟨_, rfl, CallR.or call_len cr_lenD⟩⟩
end Pv

/-! Pv23: dicts by data: made, stored into. -/
namespace Pv
open PySem PySem.Spec PyProof.Rows L2
/-! ### one more pair -/
def setK : List Key → List D → Key → D → List D
  | j :: ks, x :: ds, k, d => (if j = k then d else x) :: setK ks ds k d
  | _, _, _, _ => []
def putKs (ks : List Key) (k : Key) : List Key := if hasK ks k then ks else ks ++ [k]
def putDs (ks : List Key) (ds : List D) (k : Key) (d : D) : List D := if hasK ks k then setK ks ds k d else ds ++ [d]
/-- the same of values -/
def setV : List Key → List V → Key → V → List V
  | j :: ks, x :: ds, k, d => (if j = k then d else x) :: setV ks ds k d
  | _, _, _, _ => []
def putVs (ks : List Key) (ds : List V) (k : Key) (d : V) : List V := if hasK ks k then setV ks ds k d else ds ++ [d]
theorem setV_length : ∀ {ks : List Key} {vs : List V} {k : Key} {v : V}, ks.length = vs.length → (setV ks vs k v).length = vs.length
  | [], [], _, _, _ => rfl
  | j :: ks, x :: vs, k, v, h => by
    show (setV ks vs k v).length + 1 = vs.length + 1
    rw [setV_length (by simpa using h)]
  | [], _ :: _, _, _, h => by simp at h
  | _ :: _, [], _, _, h => by simp at h
theorem setV_zip : ∀ {ks : List Key} {vs : List V} {k : Key} {v : V}, ks.length = vs.length → (ks.zip vs).map (fun kv => if kv.1 = k then (kv.1, v) else kv) = ks.zip (setV ks vs k v)
  | [], _, _, _, _ => rfl
  | j :: ks, x :: vs, k, v, h => by
    show (if j = k then (j, v) else (j, x)) :: (ks.zip vs).map _ = (j, if j = k then v else x) :: ks.zip (setV ks vs k v)
    rw [setV_zip (by simpa using h)]
    by_cases e : j = k
    · rw [if_pos e, if_pos e]
    · rw [if_neg e, if_neg e]
  | _ :: _, [], _, _, h => by simp at h
theorem put_length {ks : List Key} {vs : List V} {k : Key} {v : V} (h : ks.length = vs.length) : (putKs ks k).length = (putVs ks vs k v).length := by
  unfold putKs putVs
  by_cases e : hasK ks k = true
  · rw [if_pos e, if_pos e, setV_length h, h]
  · rw [if_neg e, if_neg e, List.length_append, List.length_append, h]; rfl
theorem putK_zip {ks : List Key} {vs : List V} {k : Key} {v : V} (h : ks.length = vs.length) : putK (ks.zip vs) k v = (putKs ks k).zip (putVs ks vs k v) := by
  unfold putK putKs putVs
  rw [valV_any, hasK_is h]
  by_cases e : hasK ks k = true
  · rw [if_pos e, if_pos e, if_pos e, setV_zip h]
  · rw [if_neg e, if_neg e, if_neg e, List.zip_append h]; rfl
section
variable {K : PySem.W.Frag} {Z ρ : List Addr} {H : Hp}
theorem set_is : ∀ {ks : List Key} {vs : List V} {ds : List D} {k : Key} {v : V} {d : D}, IsAll K Z ρ H vs ds → Is K Z ρ H v d → ks.length = vs.length → IsAll K Z ρ H (setV ks vs k v) (setK ks ds k d)
  | [], _, _, _, _, _, .nil, _, _ => .nil
  | _ :: _, _, _, _, _, _, .nil, _, h => by simp at h
  | [], _, _, _, _, _, .cons _ _, _, h => by simp at h
  | j :: ks, _, _, k, _, _, .cons i r, iv, h => by
    refine .cons ?_ (set_is r iv (by simpa using h))
    by_cases e : j = k
    · rw [if_pos e, if_pos e]; exact iv
    · rw [if_neg e, if_neg e]; exact i
theorem put_is {ks : List Key} {vs : List V} {ds : List D} {k : Key} {v : V} {d : D} (r : IsAll K Z ρ H vs ds) (iv : Is K Z ρ H v d) (h : ks.length = vs.length) : IsAll K Z ρ H (putVs ks vs k v) (putDs ks ds k d) := by
  unfold putVs putDs
  by_cases e : hasK ks k = true
  · rw [if_pos e, if_pos e]; exact set_is r iv h
  · rw [if_neg e, if_neg e]; exact r.append (.cons iv .nil)
end
/-! ### d[k] = v -/
section
variable {X : Cx} {W : Wsh X.K} {o i : Expr} {mo mi : EM} {pos : Pos} {j : Nat}
def rPutD : V → V → V → Hp → (Hp → Prop) → Prop := fun o i v H Q => ∃ (a : Addr) (k : Key) (kvs : List (Key × V)), o = .ref a ∧ i = kV k ∧ H a = some (.dK kvs) ∧ kvs.length < sizeLine ∧ Q (upd H a (.dK (putK kvs k v)))
theorem set_dictD (hu : X.A.units + 1 < cLine) : PSet X rPutD := by
  rintro pins s σ H o i v ov iv u Q I ro ri rv ⟨a, k, kvs, rfl, rfl, hd, hl, q⟩
  obtain rfl : ov = Value.ref a := ro
  exact d_setItem hu I (DPut.k hd hl) ri rv fun s1 I1 => ⟨_, I1, q⟩
theorem PSet.or {t1 t2 : TSet} (h1 : PSet X t1) (h2 : PSet X t2) : PSet X (fun o i v H Q => t1 o i v H Q ∨ t2 o i v H Q) := fun pins s σ H o i v ov iv u Q I ro ri rv h => h.elim (h1 pins s σ H o i v ov iv u Q I ro ri rv) (h2 pins s σ H o i v ov iv u Q I ro ri rv)
/-- a store at a place of a list, a key of a dict -/
def mSubA (mo mi : EM) : GM := fun d ds => mo ds >>= fun o => mi ds >>= fun i => fun S => match o with
  | .cell k => match S[k]? with
    | some (.lst xs) => match i with
      | .int j => match ixN xs.length j with
        | some n => .ok ds (S.set k (.lst (xs.set n d)))
        | none => .no
      | _ => .no
    | some (.oth (.dk ks) xs) => match keyOf i with
      | some q => if ks.length < 1000000 then .ok ds (S.set k (.oth (.dk (putKs ks q)) (putDs ks xs q d))) else .no
      | none => .no
    | _ => .no
  | _ => .no
theorem gm_subA (ft : Fit X j) (ho : PEm X W o mo) (hi : PEm X W i mi)
    (ha : ∀ v, assign (.Subscript o i pos) X.env v = (do
      let ov ← holding [v] (eval o X.env)
      let iv ← holding [v, ov] (eval i X.env)
      standAt pos
      holding [v, ov, iv] (setItem ov iv v)
      release [v, ov, iv] []) := by intro _; rfl) : PGm X W (.Subscript o i pos) (mSubA mo mi) :=
  PG.imp (pg_sub ho hi (PSet.or set_list (set_dictD (by have := ft.u65; omega))) ha) fun v σ H Q ⟨Z, ρ, S, ds, d, t, iv, h⟩ => by
    refine tE_bind t h fun d1 S1 ρ1 H1 v1 e1 t1 i1 q1 => ?_
    refine tE_bind t1 q1 fun d2 S2 ρ2 H2 v2 e2 t2 i2 q2 => ?_
    have i1' := i1.mono t1.ok e2
    have iv' := (iv.mono t.ok e1).mono t1.ok e2
    cases i1' with
    | cell hc =>
      rename_i a k
      simp only at q2
      split at q2
      · rename_i xs e3
        split at q2
        · rename_i j
          split at q2
          · rename_i n e4
            cases i2
            obtain ⟨vs, h1, r⟩ := t2.ok.cellL hc e3
            obtain ⟨k3, e5⟩ := t2.ok.write hc ⟨_, h1, trivial⟩ (r.set iv' n)
            refine .inl ⟨a, vs, j, n, rfl, rfl, h1, by rw [r.length]; exact e4, ?_⟩
            exact (show _ from q2) ρ2 _ σ ((e1.trans e2).trans e5) ⟨k3, t2.env.mono t2.ok e5⟩
          · exact q2.elim
        · exact q2.elim
      · rename_i ks xs e3
        split at q2
        · rename_i q e4
          by_cases hl : ks.length < 1000000
          · rw [if_pos hl] at q2
            obtain ⟨vs, h1, w, r⟩ := t2.ok.cellO hc e3
            have hz : ks.length = vs.length := w
            obtain ⟨k3, e5⟩ := t2.ok.write_oth (t := .dk (putKs ks q)) hc ⟨_, h1, trivial⟩ (put_length hz) (put_is (k := q) r iv' hz)
            refine .inr ⟨a, q, _, rfl, keyOf_is i2 e4, h1, by rw [List.length_zip, ← hz, Nat.min_self, sizeLine_eq]; omega, ?_⟩
            rw [putK_zip hz]
            exact (show _ from q2) ρ2 _ σ ((e1.trans e2).trans e5) ⟨k3, t2.env.mono t2.ok e5⟩
          · rw [if_neg hl] at q2; exact q2.elim
        · exact q2.elim
      · exact q2.elim
    | _ => exact q2.elim
end
/-! ### displays -/
abbrev QM := En → M (List (D × D))
def mPair0 : QM := fun _ => pure []
def mPair1 (mk mv : EM) (mr : QM) : QM := fun ds => mk ds >>= fun x => mv ds >>= fun y => mr ds >>= fun r => pure ((x, y) :: r)
/-- keys and values, put one behind the other -/
def mergeD : List Key → List D → List (D × D) → Option (List Key × List D)
  | ks, ds, [] => some (ks, ds)
  | ks, ds, (x, y) :: r => match keyOf x with
    | some k => mergeD (putKs ks k) (putDs ks ds k y) r
    | none => none
def mDisp (m : QM) : EM := fun ds => m ds >>= fun ps => M.of (if ps.length ≤ 15 then (mergeD [] [] ps).map fun p => .oth (.dk p.1) p.2 else none)
def newDict (t : Tg) (xs : List D) : Sto → Option (D × Sto) := fun S => some (.cell S.length, S ++ [.oth t xs])
def mDispC (m : QM) : EM := fun ds => m ds >>= fun ps => if ps.length ≤ 15 then M.of (mergeD [] [] ps) >>= fun p => M.lift (newDict (.dk p.1) p.2) else stuck
section
variable {X : Cx} {W : Wsh X.K}
def PairsIs (K : PySem.W.Frag) (Z ρ : List Addr) (H : Hp) : List (V × V) → List (D × D) → Prop
  | [], [] => True
  | p :: ps, q :: qs => Is K Z ρ H p.1 q.1 ∧ Is K Z ρ H p.2 q.2 ∧ PairsIs K Z ρ H ps qs
  | _, _ => False
def PtP (K : PySem.W.Frag) (Z ρ : List Addr) (H : Hp) (Q : List (V × V) → Hp → Prop) (ds : List (D × D)) (S : Sto) : Prop := ∀ ρ' H' ps, Ext ρ H ρ' H' → Ok K Z ρ' S H' → PairsIs K Z ρ' H' ps ds → Q ps H'
structure QPm (X : Cx) (W : Wsh X.K) (pos : Pos) (keys : List (Option Expr)) (values : List Expr) (m : QM) : Prop where
  ex : ∃ trs, PPs X pos keys values trs ∧ ∀ Z ρ S σ H ds Q, At X.K Z ρ S H σ ds → MP (m ds S) (PtP X.K Z ρ H Q) (W.P Z ρ H σ ds) → tPairs trs σ H Q
theorem qm_nil {pos : Pos} : QPm X W pos [] [] mPair0 := ⟨⟨[], pps_nil, fun Z ρ S σ H ds Q t h => (MP.pure h : PtP _ _ _ _ _ _ _) ρ H [] Ext.refl t.ok trivial⟩⟩
theorem qm_cons {pos : Pos} {k v : Expr} {ks : List (Option Expr)} {vs : List Expr} {mk mv : EM} {mr : QM} (hk : PEm X W k mk) (hv : PEm X W v mv) (hr : QPm X W pos ks vs mr) : QPm X W pos (some k :: ks) (v :: vs) (mPair1 mk mv mr) := by
  obtain ⟨trs, h1, h2⟩ := hr.ex
  refine ⟨⟨_, pps_cons hk hv h1, fun Z ρ S σ H ds Q t h => ?_⟩⟩
  refine tE_bind t h fun d1 S1 ρ1 H1 v1 e1 t1 i1 q1 => ?_
  refine tE_bind t1 q1 fun d2 S2 ρ2 H2 v2 e2 t2 i2 q2 => ?_
  refine h2 Z ρ2 S2 σ H2 ds _ t2 ((MP.bind q2).imp (fun ps S3 q3 => ?_) fun _ _ _ z => z)
  intro ρ3 H3 us e3 k3 ip
  exact (MP.pure q3 : PtP _ _ _ _ _ _ _) ρ3 H3 ((v1, v2) :: us) ((e1.trans e2).trans e3) k3 ⟨(i1.mono t1.ok e2).mono t2.ok e3, i2.mono t2.ok e3, ip⟩
theorem merge_is {K : PySem.W.Frag} {Z ρ : List Addr} {H : Hp} : ∀ {qs : List (D × D)} {ps : List (V × V)} {ks : List Key} {vs : List V} {ds : List D} {r : List Key × List D}, PairsIs K Z ρ H ps qs → ks.length = vs.length → IsAll K Z ρ H vs ds → mergeD ks ds qs = some r →
    ∃ (kvs : List (Key × V)) (ws : List V), ps = kvs.map (fun kv => (kV kv.1, kv.2)) ∧ kvs.length = qs.length ∧ mergeK (ks.zip vs) kvs = r.1.zip ws ∧ r.1.length = ws.length ∧ IsAll K Z ρ H ws r.2
  | [], [], ks, vs, ds, r, _, hl, ra, e => by cases e; exact ⟨[], vs, rfl, rfl, rfl, hl, ra⟩
  | [], _ :: _, _, _, _, _, h, _, _, _ => h.elim
  | _ :: _, [], _, _, _, _, h, _, _, _ => h.elim
  | (x, y) :: qs, (u, v) :: ps, ks, vs, ds, r, ⟨h1, h2, h3⟩, hl, ra, e => by
    unfold mergeD at e
    split at e
    · rename_i k ek
      obtain ⟨kvs, ws, e1, e2, e3, e4, e5⟩ := merge_is h3 (put_length (v := v) hl) (put_is (k := k) ra h2 hl) e
      refine ⟨(k, v) :: kvs, ws, by rw [e1, List.map_cons, ← keyOf_is h1 ek], by rw [List.length_cons, List.length_cons, e2], ?_, e4, e5⟩
      show mergeK (putK (ks.zip vs) k v) kvs = _
      rw [putK_zip hl]
      exact e3
    · cases e
theorem PairsIs.length {K : PySem.W.Frag} {Z ρ : List Addr} {H : Hp} : ∀ {ps : List (V × V)} {qs : List (D × D)}, PairsIs K Z ρ H ps qs → ps.length = qs.length
  | [], [], _ => rfl
  | [], _ :: _, h => h.elim
  | _ :: _, [], h => h.elim
  | _ :: _, _ :: _, h => congrArg (· + 1) (PairsIs.length h.2.2)
/-- what is had of a dict that was being made -/
structure Done (K : PySem.W.Frag) (Z ρ : List Addr) (H : Hp) (p : Addr) (S1 : Sto) (r : List Key × List D) (Q : VK) : Prop where
  ex : ∀ ρ' H' ws, Ext ρ H ρ' H' → Ok K (p :: Z) ρ' S1 H' → H' p = some (.dK (r.1.zip ws)) → p ∉ ρ' → p ∉ Z → r.1.length = ws.length → IsAll K (p :: Z) ρ' H' ws r.2 → Q (.ref p) H'
theorem disp_of {K : PySem.W.Frag} {W : Wsh K} {Z ρ : List Addr} {S : Sto} {H : Hp} {σ : L2.St} {ds : En} {m : QM} {Q : VK} {p : Addr} (t : At K Z ρ S H σ ds) (hp : H p = none) {trs : List (TE × TE)}
    (hr : ∀ Z ρ S σ H ds Q, At K Z ρ S H σ ds → MP (m ds S) (PtP K Z ρ H Q) (W.P Z ρ H σ ds) → tPairs trs σ H Q) {ps : List (D × D)} {S1 : Sto} (hm : m ds S = .ok ps S1) (h15 : ps.length ≤ 15) {r : List Key × List D} (hr2 : mergeD [] [] ps = some r) (hd : Done K Z ρ H p S1 r Q) :
    tPairs trs σ (upd H p (.dK [])) fun ps H2 => H2 p = some (.dK []) ∧ ∃ kvs : List (Key × V), ps = kvs.map (fun kv => (kV kv.1, kv.2)) ∧ kvs.length ≤ 15 ∧ Q (.ref p) (upd H2 p (.dK (mergeK [] kvs))) := by
  have e0 : Ext ρ H ρ (upd H p (.dK [])) := ext_new hp
  have t0 : At K (p :: Z) ρ S (upd H p (.dK [])) σ ds := ⟨t.ok.addZ' hp trivial, (t.env.addZ hp).monoZ t.ok e0⟩
  refine hr (p :: Z) ρ S σ (upd H p (.dK [])) ds _ t0 ?_
  rw [hm]
  intro ρ' H' us e k ip
  have hn : p ∉ ρ := t.ok.nf hp
  have hp' : H' p = some (.dK []) := e.keep p _ hn upd_same
  obtain ⟨kvs, ws, e1, e2, e3, e4, e5⟩ := merge_is ip (ks := []) (vs := []) rfl .nil hr2
  refine ⟨hp', kvs, e1, by omega, ?_⟩
  rw [show mergeK [] kvs = r.1.zip ws from e3]
  exact hd.ex ρ' _ ws ((e0.trans e).at hp) (k.zw List.mem_cons_self hp' trivial trivial) upd_same (e.old upd_same hn) (t.ok.nz hp) e4 (e5.zw k List.mem_cons_self hp' trivial)
theorem em_disp {pos : Pos} {keys : List (Option Expr)} {values : List Expr} {m : QM} (h : QPm X W pos keys values m) (hall : keys.all (·.isSome) = true) (hl : keys.length = values.length) (h0 : keys ≠ []) (h15 : keys.length ≤ 15) :
    PEm X W (.Dict keys values pos) (mDisp m) := by
  obtain ⟨trs, h1, h2⟩ := h.ex
  refine PE.imp (pe_disp h1 hall hl h0 h15) fun σ H Q ⟨Z, ρ, S, ds, t, q⟩ p hp => ?_
  have hx : MP (m ds S) (fun ps S1 => MP (M.of (if ps.length ≤ 15 then (mergeD [] [] ps).map fun p => D.oth (.dk p.1) p.2 else none) S1) (Pt X.K Z ρ H Q) (W.P Z ρ H σ ds)) (W.P Z ρ H σ ds) := MP.bind q
  have e0 : Ext ρ H ρ (upd H p (.dK [])) := ext_new hp
  cases q1 : m ds S with
  | no => rw [q1] at hx; exact hx.elim
  | exc c v S1 =>
    rw [q1] at hx
    refine h2 Z ρ S σ (upd H p (.dK [])) ds _ (t.up e0 (t.ok.new hp)) ?_
    rw [q1]
    exact W.up t.ok e0 hx
  | ok ps S1 =>
    rw [q1] at hx
    obtain ⟨d, e1, q2⟩ := MP.of hx
    obtain ⟨hz, e2⟩ : ps.length ≤ 15 ∧ (mergeD [] [] ps).map (fun p => D.oth (.dk p.1) p.2) = some d := by
      by_cases hz : ps.length ≤ 15
      · rw [if_pos hz] at e1; exact ⟨hz, e1⟩
      · rw [if_neg hz] at e1; cases e1
    obtain ⟨r, e3, rfl⟩ := mapS e2
    exact disp_of (W := W) t hp h2 q1 hz e3 ⟨fun ρ' H' ws e k hp' nr nz hl r' => q2 ρ' H' _ e k.delZ (.oth (.of (t := .dk r.1) hp' hl nr nz) r'.delZ)⟩
theorem em_dispC {pos : Pos} {keys : List (Option Expr)} {values : List Expr} {m : QM} (h : QPm X W pos keys values m) (hall : keys.all (·.isSome) = true) (hl : keys.length = values.length) (h0 : keys ≠ []) (h15 : keys.length ≤ 15) :
    PEm X W (.Dict keys values pos) (mDispC m) := by
  obtain ⟨trs, h1, h2⟩ := h.ex
  refine PE.imp (pe_disp h1 hall hl h0 h15) fun σ H Q ⟨Z, ρ, S, ds, t, q⟩ p hp => ?_
  have hx := MP.bind q
  have e0 : Ext ρ H ρ (upd H p (.dK [])) := ext_new hp
  cases q1 : m ds S with
  | no => rw [q1] at hx; exact hx.elim
  | exc c v S1 =>
    rw [q1] at hx
    refine h2 Z ρ S σ (upd H p (.dK [])) ds _ (t.up e0 (t.ok.new hp)) ?_
    rw [q1]
    exact W.up t.ok e0 hx
  | ok ps S1 =>
    rw [q1] at hx
    have hx : MP ((if ps.length ≤ 15 then (M.of (mergeD [] [] ps) >>= fun p => M.lift (newDict (.dk p.1) p.2)) else stuck) S1) (Pt X.K Z ρ H Q) (W.P Z ρ H σ ds) := hx
    by_cases hz : ps.length ≤ 15
    · rw [if_pos hz] at hx
      obtain ⟨r, e3, q2⟩ := MP.of (MP.bind hx)
      obtain ⟨d, S2, e4, q3⟩ := MP.lift q2
      cases e4
      refine disp_of (W := W) t hp h2 q1 hz e3 ⟨fun ρ' H' ws e k hp' nr nz hl r' => ?_⟩
      have e5 : Ext ρ H (ρ' ++ [p]) H' := ⟨by
        obtain ⟨m, a, b⟩ := e.more
        exact ⟨m ++ [p], by rw [a, List.append_assoc], fun x hx => (List.mem_append.mp hx).elim (b x) fun hx => by rw [List.mem_singleton.mp hx]; exact hp⟩, e.keep, e.there, e.frz⟩
      exact q3 _ H' _ e5 (k.toC' nz hp' trivial (c0 := .oth (.dk r.1) r.2) ⟨hp', hl⟩ r') (.cell (by rw [← k.len]; simp))
    · rw [if_neg hz] at hx
      exact hx.elim
/-- {} -/
def mDict0 : EM := fun _ => pure (.oth (.dk []) [])
def mDict0C : EM := fun _ => M.lift (newDict (.dk []) [])
theorem em_dict0 {pos : Pos} : PEm X W (.Dict [] [] pos) mDict0 :=
  PE.imp pe_dnewK fun σ H Q ⟨Z, ρ, S, ds, t, h⟩ p hp => (MP.pure h : Pt _ _ _ _ _ _ _) ρ _ _ (ext_new hp) (t.ok.new hp) (.oth (.of (t := .dk []) (vs := []) upd_same rfl (t.ok.nf hp) (t.ok.nz hp)) .nil)
theorem em_dict0C {pos : Pos} : PEm X W (.Dict [] [] pos) mDict0C :=
  PE.imp pe_dnewK fun σ H Q ⟨Z, ρ, S, ds, t, h⟩ p hp => by
    obtain ⟨d, S2, e, q⟩ := MP.lift h
    cases e
    obtain ⟨k2, e2, i2⟩ := t.ok.cell_oth (t := .dk []) (vs := []) hp rfl (.nil : IsAll X.K Z ρ H [] [])
    exact q _ _ _ e2 k2 i2
end
end Pv

/-! Pv24: sets of texts (and ints): made of a list, sorted. -/
namespace Ms
open PySem PySem.Spec PyProof.Rows L2
section
variable {P : Program} {w : World} {κ : Type} [DecidableEq κ] {knd : PySem.KeyKind P w κ}
/-- the key of a member -/
noncomputable def keyO (knd : PySem.KeyKind P w κ) (e : Int × Value) : Option κ := by
  classical
  exact if h : ∃ k, knd.is k e.2 = true then some h.choose else none
theorem keyO_is {e : Int × Value} {k : κ} (h : knd.is k e.2 = true) : keyO knd e = some k := by
  have hx : ∃ k, knd.is k e.2 = true := ⟨k, h⟩
  unfold keyO
  rw [dif_pos hx, knd.inj e.2 _ _ hx.choose_spec h]
theorem is_keyO {e : Int × Value} {k : κ} (h : keyO knd e = some k) : knd.is k e.2 = true := by
  unfold keyO at h
  split at h
  · rename_i hx
    cases h
    exact hx.choose_spec
  · cases h
theorem mem_keyO {l : List (Int × Value)} {k : κ} : some k ∈ l.map (keyO knd) ↔ ∃ e ∈ l, knd.is k e.2 = true := by
  rw [List.mem_map]
  exact ⟨fun ⟨e, he, q⟩ => ⟨e, he, is_keyO q⟩, fun ⟨e, he, q⟩ => ⟨e, he, keyO_is q⟩⟩
/-- the set at a: M its members, so many; it can be walked -/
structure SetS (knd : PySem.KeyKind P w κ) (h : Heap) (a : Addr) (M : κ → Bool) (n : Nat) : Prop where
  ex : ∃ o es ep t, h.get? a = some o ∧ o.ExactSet ∧ o.data = .set es ep t ∧ ElemsOf knd es.toList ∧ (es.toList.map (keyO knd)).Nodup ∧ (∀ k, M k = true ↔ some k ∈ es.toList.map (keyO knd)) ∧
    es.size < scanBound ∧ t.fits es.size = true ∧ es.size = n ∧ Ris t.place.toList ∧ (w.params.followText "set-order" = true ∨ t.led = true)
theorem SetS.at {h h' : Heap} {a : Addr} {M : κ → Bool} {n : Nat} (R : SetS knd h a M n) (k : ∀ o, h.get? a = some o → h'.get? a = some o) : SetS knd h' a M n :=
  let ⟨o, es, ep, t, ho, r⟩ := R.ex
  ⟨⟨o, es, ep, t, k o ho, r⟩⟩
theorem SetS.congr {h : Heap} {a : Addr} {M M' : κ → Bool} {n : Nat} (R : SetS knd h a M n) (e : ∀ k, M' k = M k) : SetS knd h a M' n := (funext e : M' = M) ▸ R
end
section
variable {P : Program} {w : World} {κ : Type} [DecidableEq κ] {knd : PySem.KeyKind P w κ} {A : Around} {E : Value → Shared → Prop} {s : Shared} {a : Addr} {M : κ → Bool} {n : Nat}
/-- the end of adding: the new members stored, the table laid anew where it is too full -/
theorem add_tail {g : Bool → Sem Unit} (hg : ∀ (b : Bool) (s' : Shared) (Q' : Unit → Shared → Prop), Q' () s' → wpAny (model P w) A (g b) Q' E s')
    {o : Obj} {es : Array (Int × Value)} {ep : Nat} {t : SetTable} (ho : s.heap.get? a = some o) (hex : o.ExactSet) (hd : o.data = .set es ep t)
    {fs : Array (Int × Value)} {u : SetTable} {M' : κ → Bool} (gf : ElemsOf knd fs.toList) (nf : (fs.toList.map (keyO knd)).Nodup) (mf : ∀ k, M' k = true ↔ some k ∈ fs.toList.map (keyO knd))
    (bf : fs.size < scanBound) (ff : u.fits fs.size = true) (rf : Ris u.place.toList) (lf : w.params.followText "set-order" = true ∨ u.led = true) {dum : Bool} {T : Option Bool → Shared → Prop}
    (hT : ∀ h', Heap.SameBut a s.heap h' → SetS knd h' a M' fs.size → T (some true) { s with heap := h' }) :
    wpAny (model P w) A (do
        storeSet a fs u
        if (!dum && u.tooFull) = true then do
            g (relayAll u fs (SetTable.grown fs.size)).2.2
            storeSet a (relayAll u fs (SetTable.grown fs.size)).1 (relayAll u fs (SetTable.grown fs.size)).2.1
            pure (some true)
          else pure (some true)) T E s := by
  refine wpAny_bind (wpAny_storeSet_of ho hd ?_ (fits_of_scanBound bf))
  have oa := store_at (es' := fs) (t' := u) ho hd
  have sa := Heap.SameBut.update s.heap a (Obj.putSet fs u)
  split
  · have pz := relayAll_perm u fs (SetTable.grown fs.size)
    have fz := relayAll_fits u fs (SetTable.grown fs.size)
    have rz := relayAll_ris u fs (SetTable.grown fs.size)
    have lz := relayAll_led u fs (SetTable.grown fs.size)
    generalize relayAll u fs (SetTable.grown fs.size) = Y at pz fz rz lz ⊢
    obtain ⟨gs, v, gave⟩ := Y
    dsimp only at pz fz rz lz ⊢
    have zs : gs.size = fs.size := by rw [← Array.length_toList, pz.length_eq, Array.length_toList]
    have bz : gs.size < scanBound := by rw [zs]; exact bf
    refine wpAny_bind (hg _ _ _ (wpAny_bind (wpAny_storeSet_of oa rfl ?_ (fits_of_scanBound bz))))
    have ob := store_at (es' := gs) (t' := v) oa rfl
    exact wpAny_pure (hT _ (sa.trans (Heap.SameBut.update _ a _)) ⟨⟨_, gs, _, v, ob, hex, rfl, fun e he => gf e (pz.mem_iff.mp he), (pz.map _).nodup_iff.mpr nf, fun k => (mf k).trans (pz.map _).mem_iff.symm, bz, fz, zs, rz,
      lf.imp id fun q => by rw [lz]; exact q⟩⟩)
  · exact wpAny_pure (hT _ sa ⟨⟨_, fs, _, u, oa, hex, rfl, gf, nf, mf, bf, ff, rfl, rf, lf⟩⟩)
theorem add_hashed {k : κ} {x : Value} {Q : Bool → Shared → Prop} (hk : knd.is k x = true) (hx : x.scannable = true) (R : SetS knd s.heap a M n) (room : n + 1 < scanBound)
    (hQ : ∀ h', Heap.SameBut a s.heap h' → SetS knd h' a (fun j => M j || decide (j = k)) (if M k = true then n else n + 1) → Q (!M k) { s with heap := h' }) :
    wpAny (model P w) A (setAddHashed a x (knd.hash k)) Q E s := by
  obtain ⟨o, es, ep, t, ho, hex, hd, gm, nd, hm, hb, hf, hn, hr, hl⟩ := R.ex
  unfold setAddHashed setAddHashedIn
  refine wpAny_holding (wpAny_bind (wpAny_setState_of ho hd hf ?_))
  dsimp only
  rw [byScan_of hx hb gm]
  simp only [↓reduceIte]
  unfold setAddByScan
  refine wpAny_bind (wpAny_bind (wpAny_rule (wpAny_bind (wpAny_setScan_of hk ho hd hf gm ?_))))
  cases hfi : List.findIdx? (fun e => knd.is k e.2) es.toList with
  | some j =>
    dsimp only
    obtain ⟨hj, pj, _⟩ := List.findIdx?_eq_some_iff_getElem.mp hfi
    have hMk : M k = true := (hm k).2 (mem_keyO.2 ⟨es.toList[j], List.getElem_mem hj, pj⟩)
    refine wpAny_pure (wpAny_pure ?_)
    have q := hQ s.heap (Heap.SameBut.refl a s.heap) ⟨⟨o, es, ep, t, ho, hex, hd, gm, nd, fun i => by
      rw [Bool.or_eq_true, decide_eq_true_eq, ← hm i]
      exact ⟨fun z => z.elim id (fun e => e ▸ hMk), .inl⟩, hb, hf, by rw [if_pos hMk]; exact hn, hr, hl⟩⟩
    rw [hMk] at q
    exact q
  | none =>
    dsimp only
    have hnk : some k ∉ es.toList.map (keyO knd) := fun z => by
      obtain ⟨e, he, q⟩ := mem_keyO.1 z
      have c := List.findIdx?_eq_none_iff.mp hfi e he
      rw [q] at c
      cases c
    have hMk : M k = false := by
      cases q : M k with
      | false => rfl
      | true => exact absurd ((hm k).1 q) hnk
    have gave : ∀ (b : Bool) {s' : Shared} {Q' : Unit → Shared → Prop}, Q' () s' → wpAny (model P w) A (match b with | true => rule "set.scan.the-table-gave-way" | false => pure ()) Q' E s' :=
      fun b s' Q' q => by cases b <;> first | exact wpAny_pure q | exact wpAny_rule q
    have pz := layNew_perm t es (knd.hash k) x
    have fz := layNew_fits t es (knd.hash k) x
    have rz := layNew_ris t es (knd.hash k) x hr
    have lz := layNew_led t es (knd.hash k) x
    generalize layNew t es (knd.hash k) x = Y at pz fz rz lz ⊢
    obtain ⟨fs, u, dum, gv⟩ := Y
    dsimp only at pz fz rz lz ⊢
    rw [Array.toList_push] at pz
    have pc : fs.toList.Perm ((knd.hash k, x) :: es.toList) := pz.trans (List.perm_append_singleton _ _)
    have pk : (fs.toList.map (keyO knd)).Perm (some k :: es.toList.map (keyO knd)) := by
      have q := pc.map (keyO knd)
      rw [List.map_cons, keyO_is (e := (knd.hash k, x)) hk] at q
      exact q
    have g1 : ElemsOf knd fs.toList := fun e he => by
      rcases List.mem_cons.mp (pc.mem_iff.mp he) with z | z
      · rw [z]; exact ⟨⟨k, hk, rfl⟩, hx⟩
      · exact gm e z
    have n1 : (fs.toList.map (keyO knd)).Nodup := pk.nodup_iff.mpr (List.nodup_cons.mpr ⟨hnk, nd⟩)
    have m1 : ∀ i, (M i || decide (i = k)) = true ↔ some i ∈ fs.toList.map (keyO knd) := fun i => by
      rw [Bool.or_eq_true, decide_eq_true_eq, hm i, pk.mem_iff, List.mem_cons, Option.some.injEq]
      exact Or.comm
    have zs : fs.size = n + 1 := by rw [← Array.length_toList, pc.length_eq, List.length_cons, Array.length_toList, hn]
    have b1 : fs.size < scanBound := by rw [zs]; exact room
    have led : w.params.followText "set-order" = true ∨ u.led = true := hl.imp id fun q => by rw [lz]; exact q
    have fin : ∀ h', Heap.SameBut a s.heap h' → SetS knd h' a (fun j => M j || decide (j = k)) fs.size → Q true { s with heap := h' } := fun h' sb r => by
      have q := hQ h' sb
      rw [hMk] at q
      rw [zs] at r
      exact q r
    refine wpAny_bind (gave _ ?_)
    split
    · refine wpAny_bind ?_
      rw [hashByValue_scannable 8 hx]
      refine wpAny_pure ?_
      refine add_tail ?_ ho hex hd g1 n1 m1 b1 ?_ ?_ ?_ ?_
      · intro b s' Q' q; cases b <;> first | exact wpAny_pure q | exact wpAny_rule q
      · first | (split <;> first | exact fz | exact SetTable.fits_plain_off fz) | exact fz
      · first | (split <;> exact rz) | exact rz
      · first | (split <;> exact led) | exact led
      · intro h' sb r; dsimp only; exact wpAny_pure (fin h' sb r)
    · refine wpAny_bind (wpAny_pure ?_)
      simp only [↓reduceIte]
      refine add_tail ?_ ho hex hd g1 n1 m1 b1 fz rz led ?_
      · intro b s' Q' q; cases b <;> first | exact wpAny_pure q | exact wpAny_rule q
      · intro h' sb r; dsimp only; exact wpAny_pure (fin h' sb r)
/-- the new object -/
abbrev fresh (w : World) : Obj := { cls := .type "set", dict := none, data := .set #[] 0 (.fresh 0 0 (!w.params.followText "set-order")) }
theorem fresh_is {h : Heap} {ks : List κ} (ho : h.get? a = some (fresh w)) : SetS knd h a (fun j => decide (j ∈ ks.take 0)) 0 :=
  ⟨⟨_, #[], 0, _, ho, ⟨rfl, rfl, rfl⟩, rfl, (fun e he => by simp at he), (by simp), (fun k => by simp), (by decide), (by rfl), rfl, List.Pairwise.nil, by
    show _ ∨ (!w.params.followText "set-order") = true
    cases w.params.followText "set-order"
    · exact .inr rfl
    · exact .inl rfl⟩⟩
/-- set.update's loop over what gives values with such keys -/
theorem update_loop {I : Addr} {fp wr : List Addr} {G : Array GenState → Array GenState → Prop} {n : Nat} {Pv : Nat → Value → Prop} {St : Nat → Shared → Prop} {R : Result → Shared → Prop}
    (W : WalksS P w A.in1 I fp wr G n Pv St) (B : Addr) (hB : B ∉ fp) (ks : List κ) (hn : n = ks.length) (hb : ks.length + 1 < scanBound) (hval : ∀ i v, Pv i v → ∃ k, ks[i]? = some k ∧ knd.is k v = true ∧ v.scannable = true) :
    ∀ (m i : Nat) (s : Shared), n - i = m → i ≤ n → St i s → (∃ c, c ≤ i ∧ SetS knd s.heap B (fun j => decide (j ∈ ks.take i)) c) →
      (∀ s' c, Moved (B :: wr) G s s' → c ≤ n → SetS knd s'.heap B (fun j => decide (j ∈ ks)) c → R (.ok (.ret .none)) s') →
      codeAny (model P w) A (.builtin "set.update.loop" ⟨[.ref B, .ref I], []⟩) R s := by
  have hBw : B ∉ wr := fun h => hB (W.sub _ h)
  have sub : ∀ b ∈ wr, b ∈ B :: wr := fun b hb => List.mem_cons_of_mem _ hb
  intro m
  induction m with
  | zero =>
    intro i s hm hi st ⟨c, hc, hS⟩ hR
    obtain rfl : i = n := by omega
    refine codeAny_builtin F.entry_set_update_loop ?_
    rw [Around.under_plainId F.plain_set_update_loop _]
    show wpAny _ A.in1 (pyNext (.ref I) >>= _) _ _ s
    refine wpAny_bind (W.done s _ _ st fun s' mv => ?_)
    show wpAny _ A.in1 (ret Value.none) _ _ s'
    rw [show ks.take i = ks from List.take_of_length_le (by omega)] at hS
    exact wpAny_pure (hR s' c (mv.mono sub) hc (hS.at fun o e => mv.heap B o hBw e))
  | succ m ih =>
    intro i s hm hi st ⟨c, hc, hS⟩ hR
    have hlt : i < n := by omega
    refine codeAny_builtin F.entry_set_update_loop ?_
    rw [Around.under_plainId F.plain_set_update_loop _]
    show wpAny _ A.in1 (pyNext (.ref I) >>= _) _ _ s
    refine wpAny_bind (W.item i s _ _ hlt st fun v s' hP st' mv => ?_)
    obtain ⟨z, hz, hzv, hsc⟩ := hval i v hP
    have hS1 : SetS knd s'.heap B (fun j => decide (j ∈ ks.take i)) c := hS.at fun o e => mv.heap B o hBw e
    show wpAny _ A.in1 (holding [v] (setAdd B v) >>= _) _ _ s'
    refine wpAny_bind (wpAny_holding ?_)
    unfold setAdd
    refine wpAny_holding (wpAny_bind (knd.pyHash (k := z) hzv ?_))
    refine add_hashed (s := { s' with toks := s'.toks + 1 }) hzv hsc hS1 (by omega) fun h' sb hS2 => ?_
    have hS3 : SetS knd h' B (fun j => decide (j ∈ ks.take (i + 1))) (if decide (z ∈ ks.take i) = true then c else c + 1) := hS2.congr fun j => by
      rw [List.take_add_one, hz]
      simp [List.mem_append]
    refine wpAny_pure ⟨plainId_quiet F.plain_set_update_loop _, ih (i + 1) _ (by omega) hlt (W.frame _ s' _ _ st' (Nat.le_succ _) fun b hb o e => ?_) ⟨_, by split <;> omega, hS3⟩ fun s2 c2 mv2 hc2 hS4 => ?_⟩
    · rw [sb.2 b (fun h : b = B => hB (by rw [← h]; exact hb))]; exact e
    · refine hR s2 c2 (Moved.trans W.gtrans ((mv.mono sub).then_heap (Nat.le_succ _) fun b o hb e => ?_) mv2) hc2 hS4
      rw [sb.2 b (fun h : b = B => hb (by rw [h]; exact List.mem_cons_self))]; exact e
end
end Ms

/-! Pv25: set(list), sorted of such a set. -/
namespace Ms
open PySem PySem.Spec PyProof.Rows L2
section
variable {P : Program} {w : World} {κ : Type} [DecidableEq κ] {knd : PySem.KeyKind P w κ} {A : Around} {E : Value → Shared → Prop} {s : Shared} {a : Addr} {M : κ → Bool} {n : Nat}
/-- set(xs), xs a list of values with such keys -/
theorem call_set_list {l : Addr} {items : Array Value} (ks : List κ) {Q : Value → Shared → Prop} (hh : A.handled = none) (hl : s.heap.IsList l items) (hz : items.size = ks.length) (hv : ∀ (i : Nat) (v : Value), items[i]? = some v → ∃ k, ks[i]? = some k ∧ knd.is k v = true ∧ v.scannable = true) (hb : ks.length + 1 < scanBound)
    (h : ∀ (h' : Heap) (tk c : Nat), SetS knd h' s.heap.objs.size (fun j => decide (j ∈ ks)) c → c ≤ ks.length → (∀ b o, s.heap.get? b = some o → h'.get? b = some o) → Q (.ref s.heap.objs.size) { s with heap := h', toks := tk }) :
    wpAny (model P w) A (call (.type "set") [.ref l]) Q E s := by
  obtain ⟨c, tl, hmro⟩ := F.called_set.mro
  have hmade := F.called_set.made
  have hsub := F.called_set.sub
  refine wpAny_call (codeAny_of_tree ?_)
  show wpAny _ _ (callAny (.type "set") _) _ _ _
  refine wpAny_pure ⟨Code.quiet_builtin _ (by decide +kernel), codeAny_builtin F.entry_type_call ?_⟩
  rw [Around.under_plain (weight_type_call_type "set" [.ref l] []) rfl]
  have h1 := F.called_set.notType
  have h2 := F.called_set.canCreate
  have hct := F.typeCall_set_1 (.ref l)
  repeat (any_goals (first | assumption | wp_step))
  refine codeAny_mono (code_set_led1 (.ref l) (E := E) (Q₁ := fun obj s₁ => obj = .ref s.heap.objs.size ∧ s₁ = { s with heap := s.heap.push (fresh w) }) ⟨rfl, rfl⟩) fun r s₁ hr => ?_
  cases r with
  | error e => exact hr
  | ok fl =>
    cases fl with
    | ret obj =>
      obtain ⟨rfl, rfl⟩ := hr
      have hS : (s.heap.push (fresh w)).get? s.heap.objs.size = some (fresh w) := Heap.get?_push_size _ rfl
      have hT : Shared.TypeIs { s with heap := s.heap.push (fresh w) } (.ref s.heap.objs.size) "set" := ⟨_, hS, rfl⟩
      have hli := F.called_set.init.lookup
      have hbi := F.called_set.init.bind (.ref s.heap.objs.size)
      repeat (any_goals (first | assumption | wp_step))
      refine codeAny_mono (codeAny_call_builtin (R := wants (fun r s₂ => r = .none ∧ ∃ h' tk c, s₂ = { s with heap := h', toks := tk } ∧ SetS knd h' s.heap.objs.size (fun j => decide (j ∈ ks)) c ∧ c ≤ ks.length ∧
          (∀ b o, s.heap.get? b = some o → h'.get? b = some o)) E) F.called_set.init.plain F.entry_set_init (check_set_init_1 hT ?_)) fun r₂ s₂ hr₂ => ?_
      · obtain ⟨ol, hol, hcl, nl, hdl⟩ := hl
        obtain ⟨ocls, odict, odata, oslots⟩ := ol
        simp only at hcl hdl
        subst hcl; subst hdl
        have hol' : (s.heap.push (fresh w)).get? l = some { cls := .type "list", dict := odict, data := .seq items nl, slots := oslots } := Heap.get?_push_of_some _ hol
        have hsls := F.sub_list_set
        have hslf := F.sub_list_frozenset
        have hne : (Value.type "list" == Value.type "dict") = false := by decide
        have hl1 : (s.heap.push (fresh w)).IsList l items := ⟨_, hol', rfl, nl, rfl⟩
        unfold Builtin.«set.__init__» noKeywords Builtin.Frozenset.updateFrom
        generalize hPI : pyIter = PI
        wp_walk
        subst hPI
        refine wpAny_pyIter_list hl1 (wpAny_bind (wpAny_runValue ?_))
        have hlS : l < s.heap.objs.size := Heap.lt_size hol
        have hh3 : A.in1.in1.in1.handled = none := by simp [hh]
        have z1 : (s.heap.push (fresh w)).objs.size = s.heap.objs.size + 1 := Heap.size_push ..
        have nI : l ≠ (s.heap.push (fresh w)).objs.size := by rw [z1]; exact Nat.ne_of_lt (Nat.lt_succ_of_lt hlS)
        have nB : s.heap.objs.size ∉ [(s.heap.push (fresh w)).objs.size, l] := by
          rw [z1]; simp only [List.mem_cons, List.not_mem_nil, or_false, not_or]
          exact ⟨Nat.ne_of_lt (Nat.lt_succ_self _), Nat.ne_of_gt hlS⟩
        refine update_loop (knd := knd) ((Walks.list hh3 _ l nI items).toS) s.heap.objs.size nB ks hz hb hv (items.size - 0) 0 _ (by omega) (Nat.zero_le _)
          ⟨⟨_, Heap.get?_push_size _ rfl, rfl, rfl⟩, (hl1.push _)⟩ ?hS0 ?hR
        case hS0 => exact ⟨0, Nat.le_refl 0, fresh_is (Heap.get?_push_of_some _ hS)⟩
        case hR =>
          intro s' c' hm hc' hS'
          obtain ⟨h', g2, d', tk', os'⟩ := s'
          have eg : g2 = s.gens := hm.gens
          have ed : d' = s.drawn := hm.drawn
          have eo : os' = s.os := hm.os
          subst eg; subst ed; subst eo
          show wpAny _ _ _ _ _ _
          refine wpAny_pure ?_
          show wpAny _ _ (ret Value.none) _ _ _
          rw [hz] at hc'
          refine wpAny_pure ⟨rfl, h', tk', c', rfl, hS', hc', fun b o e => ?_⟩
          have b0 : b < s.heap.objs.size := Heap.lt_size e
          exact hm.heap b o (by rw [z1]; simp only [List.mem_cons, List.not_mem_nil, or_false, not_or]; exact ⟨Nat.ne_of_lt b0, Nat.ne_of_lt (Nat.lt_succ_of_lt b0)⟩) (Heap.get?_push_of_some _ (Heap.get?_push_of_some _ e))
      · cases r₂ with
        | error e => exact hr₂
        | ok fl₂ =>
          cases fl₂ with
          | ret r =>
            obtain ⟨rfl, h', tk, c', rfl, hS', hc', hk'⟩ := hr₂
            repeat (any_goals (first | assumption | wp_step))
            exact h _ _ _ hS' hc' hk'
          | _ => exact hr₂.elim
    | _ => exact hr.elim
/-- sorted(set), the members' data by dat: the list of their values, each key once, ascending -/
theorem sorted_set {dat : κ → PyData} {Q : Value → Shared → Prop} (R : SetS knd s.heap a M n) (hh : A.handled = none)
    (hd : ∀ (k : κ) (v : Value) (h : Heap), knd.is k v = true → Reads h v (dat k) []) (hs : ∀ k, dat k ≠ .none ∧ ∀ xs, dat k ≠ .tuple xs) (hp : ∀ k, (dat k).depth = 0) (hal : ∀ k j, M k = true → M j = true → PySem.W.alike (dat k) (dat j) = true) (hu : A.units + 8 < cLine)
    (hQ : ∀ s' p (out : List Value) (c : Nat) (ks : List κ), (∀ b o, s.heap.get? b = some o → s'.heap.get? b = some o) → s'.gens = s.gens → s'.os = s.os → s.heap.objs.size ≤ p →
      s'.heap.get? p = some (seqObj "list" out.toArray c) → PySem.W.EachIs (fun v k => knd.is k v = true) out (ks.mergeSort (PySem.W.dataLe false dat)) → ks.Nodup → (∀ k, k ∈ ks ↔ M k = true) → ks.length = n → Q (.ref p) s') :
    wpAny (model P w) A (call (.builtin "sorted") [.ref a]) Q E s := by
  obtain ⟨o, es, ep, t, ho, hex, hdt, g, nd, hm, hb, hf, hn, hr, hl⟩ := R.ex
  refine Calls.call_function_entry kind_sorted plain_sorted entry_sorted (args_sorted1 _) ?_
  unfold Builtin.«sorted»
  refine wpAny_bind (m := checkCount "sorted" 1 1 _) (wpAny_pure ?_)
  refine wpAny_bind (collect_set (A := A.in1) hh ⟨o, ho, hex.1, hdt⟩ hf hb hr hl fun s1 vs k1 hz g1 o1 pm => ?_)
  have hvl : vs.length = n := by rw [pm.length_eq, List.length_map, Array.length_toList]; exact hn
  -- the keys of what was gathered
  have keys : ∀ l : List Value, (∀ v ∈ l, ∃ k, knd.is k v = true) → ∃ ks : List κ, PySem.W.EachIs (fun v k => knd.is k v = true) l ks ∧ ks.map some = l.map (fun v => keyO knd ((0 : Int), v)) := by
    intro l
    induction l with
    | nil => intro _; exact ⟨[], .nil, rfl⟩
    | cons v l ih =>
      intro hk
      obtain ⟨k, e⟩ := hk v List.mem_cons_self
      obtain ⟨ks, e1, e2⟩ := ih fun u hu => hk u (List.mem_cons_of_mem _ hu)
      exact ⟨k :: ks, .cons e e1, by rw [List.map_cons, List.map_cons, e2, keyO_is (e := ((0 : Int), v)) e]⟩
  obtain ⟨ks, ek, em⟩ := keys vs fun v hv => by
    obtain ⟨e, he, q⟩ := List.mem_map.mp (pm.mem_iff.mp hv)
    obtain ⟨⟨k, h1, _⟩, _⟩ := g e he
    exact ⟨k, by rw [← q]; exact h1⟩
  have same : ∀ e : Int × Value, keyO knd ((0 : Int), e.2) = keyO knd e := fun e => by
    cases q : keyO knd e with
    | none =>
      cases q2 : keyO knd ((0 : Int), e.2) with
      | none => rfl
      | some k => rw [keyO_is (e := e) (is_keyO q2)] at q; cases q
    | some k => exact keyO_is (e := ((0 : Int), e.2)) (is_keyO q)
  have pk : (ks.map some).Perm (es.toList.map (keyO knd)) := by
    rw [em]
    have q := pm.map fun v => keyO knd ((0 : Int), v)
    rw [List.map_map] at q
    refine q.trans (List.Perm.of_eq (List.map_congr_left fun e _ => same e))
  have nk : ks.Nodup := by
    have q := pk.nodup_iff.mpr nd
    exact List.Pairwise.of_map some (fun _ _ h e => h (congrArg some e)) q
  have mk : ∀ k, k ∈ ks ↔ M k = true := fun k => by
    rw [hm k, ← pk.mem_iff, List.mem_map]
    exact ⟨fun h => ⟨k, h, rfl⟩, fun ⟨j, h, e⟩ => by cases e; exact h⟩
  have lk : ks.length = n := by
    have q := pk.length_eq
    rw [List.length_map, List.length_map, Array.length_toList] at q
    exact q.trans hn
  have big : n ≤ sizeLine := hn ▸ fits_of_scanBound hb
  refine wpAny_bind (wpAny_newList ?_ (by rw [hvl]; exact big))
  have hoL : (s1.heap.push (seqObj "list" vs.toArray 0)).get? s1.heap.objs.size = some (seqObj "list" vs.toArray 0) := Heap.get?_push_size _ rfl
  have er : ∀ {l : List Value} {js : List κ}, PySem.W.EachIs (fun v k => knd.is k v = true) l js → PySem.W.EachIs (fun v k => ∃ as, Reads (s1.heap.push (seqObj "list" vs.toArray 0)) v (dat k) as ∧ s1.heap.objs.size ∉ as) l js := fun e => e.mono fun v k h => ⟨[], hd k v _ h, by simp⟩
  refine wpAny_bind (wpAny_holding (PySem.W.list_sort_data (s := { s1 with heap := s1.heap.push (seqObj "list" vs.toArray 0) }) (bs := ks) (enc := dat) (R := fun v k => knd.is k v = true) hoL ek (er ek) ?_ ?_ (by rw [lk]; exact big) ?_ fun out lo eo => ?_))
  · intro d hd1 e he1
    obtain ⟨k, hk, rfl⟩ := List.mem_map.mp hd1
    obtain ⟨j, hj, rfl⟩ := List.mem_map.mp he1
    exact hal k j ((mk k).1 hk) ((mk j).1 hj)
  · exact .inr fun d hd1 => by
      obtain ⟨k, hk, rfl⟩ := List.mem_map.mp hd1
      exact hs k
  · intro k hk
    rw [hp k]
    show A.units + 1 + 1 + 0 < cLine
    omega
  · obtain ⟨c, hc⟩ := sortedHeap_at (vs := vs) (out := out.toArray) hoL
    refine wpAny_pure ⟨_, rfl, hQ _ s1.heap.objs.size out c ks (fun b u e => ?_) g1 o1 hz hc eo nk mk lk⟩
    have q := k1 b u e
    have hlt := Heap.lt_size q
    show (sortedHeap (s1.heap.push (seqObj "list" vs.toArray 0)) s1.heap.objs.size vs out.toArray).get? b = some u
    rw [sortedHeap_old (Nat.ne_of_lt hlt) (by rw [Heap.size_push]; exact Nat.lt_succ_of_lt hlt)]
    exact Heap.get?_push_of_some _ q
end
end Ms

/-! Pv26: sorts that the kernel can reckon; sorted(list of alike data). -/
namespace Pv
open PySem PySem.Spec PyProof.Rows L2
section
variable {α : Type} {le : α → α → Bool}
def ins (le : α → α → Bool) (x : α) : List α → List α
  | [] => [x]
  | y :: ys => if le x y then x :: y :: ys else y :: ins le x ys
def isort (le : α → α → Bool) : List α → List α
  | [] => []
  | x :: xs => ins le x (isort le xs)
theorem ins_perm (x : α) : ∀ l, (ins le x l).Perm (x :: l)
  | [] => List.Perm.refl _
  | y :: ys => by
    unfold ins
    split
    · exact List.Perm.refl _
    · exact ((ins_perm x ys).cons y).trans (List.Perm.swap x y ys)
theorem isort_perm : ∀ l, (isort le l).Perm l
  | [] => List.Perm.refl _
  | x :: xs => (ins_perm x _).trans ((isort_perm xs).cons x)
theorem ins_sorted (T : PySem.W.TotalLe le) (x : α) : ∀ {l}, l.Pairwise (fun a b => le a b = true) → (ins le x l).Pairwise (fun a b => le a b = true)
  | [], _ => List.pairwise_singleton _ _
  | y :: ys, h => by
    obtain ⟨h1, h2⟩ := List.pairwise_cons.mp h
    unfold ins
    by_cases e : le x y = true
    · rw [if_pos e]
      refine List.pairwise_cons.mpr ⟨fun z hz => ?_, h⟩
      rcases List.mem_cons.mp hz with rfl | hz
      · exact e
      · exact T.trans _ _ _ e (h1 z hz)
    · rw [if_neg e]
      refine List.pairwise_cons.mpr ⟨fun z hz => ?_, ins_sorted T x h2⟩
      rcases List.mem_cons.mp ((ins_perm x ys).mem_iff.mp hz) with rfl | hz
      · exact (T.total z y).resolve_left e
      · exact h1 z hz
theorem isort_sorted (T : PySem.W.TotalLe le) : ∀ l, (isort le l).Pairwise (fun a b => le a b = true)
  | [] => List.Pairwise.nil
  | x :: xs => ins_sorted T x (isort_sorted T xs)
theorem ins_filter (T : PySem.W.TotalLe le) (x c : α) : ∀ {l}, l.Pairwise (fun a b => le a b = true) → (ins le x l).filter (PySem.W.sameRank le c) = (x :: l).filter (PySem.W.sameRank le c)
  | [], _ => rfl
  | y :: ys, h => by
    obtain ⟨h1, h2⟩ := List.pairwise_cons.mp h
    unfold ins
    by_cases e : le x y = true
    · rw [if_pos e]
    · rw [if_neg e, List.filter_cons, ins_filter T x c h2]
      by_cases hx : PySem.W.sameRank le c x = true
      · have hy : ¬ PySem.W.sameRank le c y = true := fun hy => by
          unfold PySem.W.sameRank at hx hy
          rw [Bool.and_eq_true] at hx hy
          exact e (T.trans _ _ _ hx.2 hy.1)
        simp [List.filter_cons, hx, hy]
      · simp [List.filter_cons, hx]
theorem isort_filter (T : PySem.W.TotalLe le) (c : α) : ∀ l, (isort le l).filter (PySem.W.sameRank le c) = l.filter (PySem.W.sameRank le c)
  | [] => rfl
  | x :: xs => by
    show (ins le x (isort le xs)).filter _ = _
    rw [ins_filter T x c (isort_sorted T xs), List.filter_cons, List.filter_cons, isort_filter T c xs]
theorem isort_eq (T : PySem.W.TotalLe le) (l : List α) : isort le l = l.mergeSort le := PySem.W.sort_unique T (isort_sorted T l) fun c => isort_filter T c l
end
/-! ### sorted(list) -/
abbrev Toks := List (Int ⊕ List Nat)
def leT (a b : Toks × D) : Bool := !PyProof.Rows.lexLt PyProof.Rows.itemOrd b.1 a.1
def sortDD (ps : List PyData) (ds : List D) : List D := (isort leT ((ps.map PySem.W.keyToks).zip ds)).map (·.2)
def isTup1 : PyData → Bool
  | .tuple (_ :: _) => true
  | _ => false
def isTup : PyData → Bool
  | .tuple _ => true
  | _ => false
def fSortedA : FA := fun xs S => match xs with
  | [x] => match vw S x with
    | .lst ds => match toPyAll ds with
      | some ps => if (alkAll ps && (ps.all isTup1 || ps.all fun p => !isTup p) && decide (PyData.depthAll ps ≤ 50) && decide (ds.length ≤ 1000000)) = true then some (.lst (sortDD ps ds), S) else none
      | none => none
    | _ => none
  | _ => none
def rSortedAny (K : PySem.W.Frag) : List V → Hp → VK → Prop := fun vs H Q => ∃ (a : Addr) (bs : List (V × PyData)), vs = [.ref a] ∧ SqL K H a (bs.map (·.1)) ∧ (∀ b ∈ bs, Dp K H b.1 b.2) ∧ PySem.W.AllAlike (bs.map (·.2)) ∧ PySem.W.Sortable (bs.map (·.2)) ∧ (∀ b ∈ bs, b.2.depth ≤ 50) ∧
  ∀ p, H p = none → Q (.ref p) (upd H p (.lst ((bs.mergeSort (PySem.W.dataLe false (·.2))).map (·.1))))
theorem each_zip {α β : Type} {R : α → β → Prop} : ∀ {as : List α} {bs : List β}, as.length = bs.length → (∀ (i : Nat) (a : α) (b : β), as[i]? = some a → bs[i]? = some b → R a b) → PySem.W.EachIs R as bs
  | [], [], _, _ => .nil
  | [], _ :: _, h, _ => by simp at h
  | _ :: _, [], h, _ => by simp at h
  | a :: as, b :: bs, h, f => .cons (f 0 a b rfl rfl) (each_zip (by simpa using h) fun i x y h1 h2 => f (i + 1) x y (by simpa using h1) (by simpa using h2))
theorem each_vals {α : Type} {g : α → V} : ∀ {us : List Value} {bs : List α}, PySem.W.EachIs (fun u b => RelV (g b) u) us bs → Vals (bs.map g) us
  | _, _, .nil => .nil
  | _, _, .cons r t => .cons r (each_vals t)
theorem cr_sortedAny {X : Cx} (hu : X.A.units + 64 < cLine) : CallR X (.builtin "sorted") (rSortedAny X.K) := by
  rintro pins s σ H xs us Q I r ⟨a, bs, rfl, hl, hd, ha, hs, hp, q⟩
  obtain ⟨u, rfl, rx⟩ := vals1 r
  obtain rfl : u = Value.ref a := rx
  obtain ⟨its, rv, pl, hz⟩ := I.list hl
  have len : its.length = bs.length := by rw [← rv.length, List.length_map]
  have at_ : ∀ (i : Nat) (v : Value) (b : V × PyData), its[i]? = some v → bs[i]? = some b → RelV b.1 v ∧ ∃ as, Reads s.heap v b.2 as := fun i v b h1 h2 => by
    have h3 : (bs.map (·.1))[i]? = some b.1 := by rw [List.getElem?_map, h2]; rfl
    obtain ⟨u, h4, h5⟩ := rv.get h3
    rw [h1] at h4; cases h4
    exact ⟨h5, Dp.reads I b.2 b.1 v (hd b (List.mem_of_getElem? h2)) h5⟩
  refine PySem.W.sorted_data (R := fun v b => RelV b.1 v) (bs := bs) (enc := (·.2)) pl.isList (each_zip len fun i v b h1 h2 => (at_ i v b h1 h2).1) (each_zip len fun i v b h1 h2 => (at_ i v b h1 h2).2) ha hs ?_ ?_ fun out lo eo => ?_
  · rw [List.length_map] at hz
    exact hz
  · intro b hb
    have := hp b hb
    omega
  · obtain ⟨ep, he⟩ := sortedAll_at s.heap its out.toArray
    have vo := each_vals (g := fun b : V × PyData => b.1) eo
    have lo2 : ((bs.mergeSort (PySem.W.dataLe false (·.2))).map (·.1)).length ≤ sizeLine := by
      rw [List.length_map, List.length_mergeSort]
      rw [List.length_map] at hz
      exact hz
    exact ⟨.ref _, _, I.laid (a := s.heap.objs.size + 1) (o := .lst ((bs.mergeSort (PySem.W.dataLe false (·.2))).map (·.1))) (t' := s.toks) (fun _ _ => sortedAll_old) (Nat.le_succ _) ⟨lo2, out, ep, vo, he⟩, rfl, q _ (I.hok.fresh (Nat.le_succ _))⟩
/-! the data -/
theorem dpAll_mem {K : PySem.W.Frag} {H : Hp} : ∀ {vs : List V} {ps : List PyData}, DpAll K H vs ps → ∀ b ∈ vs.zip ps, Dp K H b.1 b.2
  | _, _, .nil, b, h => by cases h
  | _, _, .cons i r, b, h => (List.mem_cons.mp h).elim (fun e => e ▸ i) (dpAll_mem r b)
theorem dpAll_length {K : PySem.W.Frag} {H : Hp} : ∀ {vs : List V} {ps : List PyData}, DpAll K H vs ps → vs.length = ps.length
  | _, _, .nil => rfl
  | _, _, .cons _ r => congrArg (· + 1) (dpAll_length r)
theorem zip_fst {α β : Type} {xs : List α} {ys : List β} (h : xs.length = ys.length) : (xs.zip ys).map (·.1) = xs := List.map_fst_zip (Nat.le_of_eq h)
theorem zip_snd {α β : Type} {xs : List α} {ys : List β} (h : xs.length = ys.length) : (xs.zip ys).map (·.2) = ys := List.map_snd_zip (Nat.le_of_eq h.symm)
theorem isAll_of {K : PySem.W.Frag} {Z ρ : List Addr} {H : Hp} {α : Type} {f : α → V} {g : α → D} : ∀ {bs : List α}, (∀ b ∈ bs, Is K Z ρ H (f b) (g b)) → IsAll K Z ρ H (bs.map f) (bs.map g)
  | [], _ => .nil
  | b :: bs, h => .cons (h b List.mem_cons_self) (isAll_of fun c hc => h c (List.mem_cons_of_mem _ hc))
theorem isAll_zip {K : PySem.W.Frag} {Z ρ : List Addr} {H : Hp} : ∀ {vs : List V} {ds : List D}, IsAll K Z ρ H vs ds → ∀ b ∈ vs.zip ds, Is K Z ρ H b.1 b.2
  | _, _, .nil, b, h => by cases h
  | _, _, .cons i r, b, h => (List.mem_cons.mp h).elim (fun e => e ▸ i) (isAll_zip r b)
theorem toPyAll_length : ∀ {ds : List D} {ps : List PyData}, toPyAll ds = some ps → ds.length = ps.length
  | [], ps, h => by cases h; rfl
  | d :: ds, ps, h => by
    obtain ⟨p, qs, rfl, _, h2⟩ := toPyAll_cons h
    rw [List.length_cons, List.length_cons, toPyAll_length h2]
theorem depth_mem : ∀ {ps : List PyData} {p : PyData}, p ∈ ps → p.depth ≤ PyData.depthAll ps
  | [], _, h => by cases h
  | q :: ps, p, h => by
    rw [PyData.depthAll]
    rcases List.mem_cons.mp h with rfl | h
    · exact Nat.le_max_left _ _
    · exact Nat.le_trans (depth_mem h) (Nat.le_max_right _ _)
theorem triples : ∀ {vs : List V} {ds : List D} {ps : List PyData}, vs.length = ds.length → ds.length = ps.length →
    ∃ ts : List (V × D × PyData), ts.map (fun t => (t.1, t.2.2)) = vs.zip ps ∧ ts.map (fun t => (PySem.W.keyToks t.2.2, t.2.1)) = (ps.map PySem.W.keyToks).zip ds ∧ ∀ t ∈ ts, (t.1, t.2.1) ∈ vs.zip ds
  | [], [], [], _, _ => ⟨[], rfl, rfl, fun _ h => by cases h⟩
  | v :: vs, d :: ds, p :: ps, h1, h2 => by
    obtain ⟨ts, e1, e2, e3⟩ := triples (vs := vs) (ds := ds) (ps := ps) (by simpa using h1) (by simpa using h2)
    refine ⟨(v, d, p) :: ts, by rw [List.map_cons, e1]; rfl, by rw [List.map_cons, e2]; rfl, fun t ht => ?_⟩
    rcases List.mem_cons.mp ht with rfl | ht
    · exact List.mem_cons_self
    · exact List.mem_cons_of_mem _ (e3 t ht)
  | [], _ :: _, _, h, _ => by simp at h
  | _ :: _, [], _, h, _ => by simp at h
  | [], [], _ :: _, _, h => by simp at h
  | _ :: _, _ :: _, [], _, h => by simp at h
theorem leT_total : PySem.W.TotalLe leT := PySem.W.sortLe_total (PyProof.Rows.listOrd PyProof.Rows.itemOrd) false (fun b : Toks × D => b.1)
/-- the same order, of values, of data -/
theorem sort_pairs {K : PySem.W.Frag} {Z ρ : List Addr} {H : Hp} {vs : List V} {ds : List D} {ps : List PyData} (r : IsAll K Z ρ H vs ds) (hl : ds.length = ps.length) :
    IsAll K Z ρ H (((vs.zip ps).mergeSort (PySem.W.dataLe false (·.2))).map (·.1)) (sortDD ps ds) := by
  obtain ⟨ts, e1, e2, e3⟩ := triples r.length hl
  have s1 := PySem.W.sort_maps (r := fun a b : V × D × PyData => PySem.W.dataLe false (fun t : V × D × PyData => t.2.2) a b) (s := PySem.W.dataLe false (fun t : V × PyData => t.2)) (fun t : V × D × PyData => (t.1, t.2.2)) (l := ts) fun a _ b _ => rfl
  have s2 := PySem.W.sort_maps (r := fun a b : V × D × PyData => PySem.W.dataLe false (fun t : V × D × PyData => t.2.2) a b) (s := leT) (fun t : V × D × PyData => (PySem.W.keyToks t.2.2, t.2.1)) (l := ts) fun a _ b _ => rfl
  unfold sortDD
  rw [isort_eq leT_total, ← e2, ← s2, ← e1, ← s1, List.map_map, List.map_map]
  refine isAll_of fun t ht => ?_
  exact isAll_zip r _ (e3 t ((List.mergeSort_perm _ _).mem_iff.mp ht))
theorem cd_sortedAny (K : PySem.W.Frag) : CallD K (rSortedAny K) fSortedA := by
  intro Z ρ S S' H xs ds d Q k i h q
  unfold fSortedA at h
  split at h
  · rename_i x
    obtain ⟨v, rfl, iv⟩ := is1 i
    split at h
    · rename_i es e
      split at h
      · rename_i ps ep
        obtain ⟨hc, e2⟩ := of_if h
        cases e2
        simp only [Bool.and_eq_true, Bool.or_eq_true, decide_eq_true_eq] at hc
        obtain ⟨⟨⟨hk, ht⟩, hd⟩, hz⟩ := hc
        obtain ⟨a, vs, rfl, hl, r⟩ := vw_lst k iv e
        have dp := r.dp ep
        have l0 := dpAll_length dp
        have A := alk_of hk
        refine ⟨a, vs.zip ps, rfl, by rw [zip_fst l0]; exact hl, dpAll_mem dp, by rw [zip_snd l0]; exact fun x hx y hy => A.1 x hx y hy, ?_, fun b hb => ?_, fun p hp => ?_⟩
        · rw [zip_snd l0]
          rcases ht with ht | ht
          · refine .inl fun x hx => ?_
            have := List.all_eq_true.mp ht x hx
            unfold isTup1 at this
            split at this
            · exact ⟨_, _, rfl⟩
            · cases this
          · refine .inr fun x hx => ⟨A.2 x hx, fun ys e => ?_⟩
            have := List.all_eq_true.mp ht x hx
            rw [e] at this
            cases this
        · exact Nat.le_trans (depth_mem (List.of_mem_zip hb).2) hd
        · have rr := sort_pairs r (toPyAll_length ep)
          exact q ρ _ _ (ext_new hp) (k.new hp) (new_lst k hp rr)
      · cases h
    · cases h
  · cases h
theorem sortedA_is {xs : List D} {S S1 : Sto} {d : D} (h : fSortedA xs S = some (d, S1)) : S1 = S ∧ ∃ ys, d = .lst ys ∧ ys.length ≤ 1000000 := by
  unfold fSortedA at h
  split at h
  · split at h
    · split at h
      · rename_i ps ep
        obtain ⟨hc, e2⟩ := of_if h
        cases e2
        simp only [Bool.and_eq_true, decide_eq_true_eq] at hc
        refine ⟨rfl, _, rfl, ?_⟩
        unfold sortDD
        rw [List.length_map, (isort_perm _).length_eq, List.length_zip]
        exact Nat.le_trans (Nat.min_le_right _ _) hc.2
      · cases h
    · cases h
  · cases h
theorem b_sortedA {X : Cx} {j : Nat} (ft : Fit X j) (hm : X.mg "sorted" = none) : Blt X "sorted" fSortedA := ⟨hm, by decide, by decide, _, cd_sortedAny _, .inl ⟨_, rfl, cr_sortedAny ft.room.units⟩⟩
end Pv

/-! Pv27: sorted(set(list)). -/
namespace Pv
open PySem PySem.Spec PyProof.Rows L2
/-! ### keys in their order -/
def datK : Key → PyData
  | .inl i => .int i
  | .inr x => .str x
def ltK : Key → Key → Bool
  | .inl i, .inl j => decide (i < j)
  | .inr x, .inr y => decide (x.cps.toList < y.cps.toList)
  | .inl _, .inr _ => true
  | .inr _, .inl _ => false
def leK (a b : Key) : Bool := !ltK b a
theorem ltK_is : ∀ a b : Key, ltK a b = PySem.W.dataLt (datK a) (datK b)
  | .inl i, .inl j => (PySem.W.dataLt_int i j).symm
  | .inr x, .inr y => (PySem.W.dataLt_str x y).symm
  | .inl i, .inr y => by
    show true = PyProof.Rows.lexLt PyProof.Rows.itemOrd [.inl i] [.inr y.cps.toList]
    rw [PySem.W.lex_one] <;> rfl
  | .inr x, .inl j => by
    show false = PyProof.Rows.lexLt PyProof.Rows.itemOrd [.inr x.cps.toList] [.inl j]
    rw [PySem.W.lex_one] <;> rfl
theorem leK_is : leK = PySem.W.dataLe false datK := by
  funext a b
  show (!ltK b a) = !PySem.W.dataLt (datK b) (datK a)
  rw [ltK_is]
theorem leK_total : PySem.W.TotalLe leK := by
  rw [leK_is]
  exact PySem.W.sortLe_total _ false _
theorem leK_anti : ∀ {a b : Key}, leK a b = true → leK b a = true → a = b
  | .inl i, .inl j, h1, h2 => by
    simp only [leK, ltK, Bool.not_eq_true', decide_eq_false_iff_not] at h1 h2
    rw [show i = j by omega]
  | .inr x, .inr y, h1, h2 => by
    simp only [leK, ltK, Bool.not_eq_true', decide_eq_false_iff_not] at h1 h2
    rw [PySem.W.str_of_cps (x := x) (y := y) (List.le_antisymm h1 h2)]
  | .inl i, .inr y, h1, h2 => by simp [leK, ltK] at h2
  | .inr x, .inl j, h1, h2 => by simp [leK, ltK] at h1
def dedupK : List Key → List Key
  | [] => []
  | k :: ks => if hasK ks k then dedupK ks else k :: dedupK ks
theorem hasK_mem {ks : List Key} {k : Key} : hasK ks k = true ↔ k ∈ ks := by
  unfold hasK
  rw [List.any_eq_true]
  exact ⟨fun ⟨j, h, e⟩ => by rw [← of_decide_eq_true e]; exact h, fun h => ⟨k, h, decide_eq_true rfl⟩⟩
theorem dedupK_mem : ∀ {ks : List Key} {k : Key}, k ∈ dedupK ks ↔ k ∈ ks
  | [], _ => Iff.rfl
  | j :: ks, k => by
    unfold dedupK
    by_cases h : hasK ks j = true
    · rw [if_pos h, dedupK_mem, List.mem_cons]
      exact ⟨.inr, fun z => z.elim (fun e => e ▸ hasK_mem.mp h) id⟩
    · rw [if_neg h, List.mem_cons, List.mem_cons, dedupK_mem]
theorem dedupK_nodup : ∀ ks : List Key, (dedupK ks).Nodup
  | [] => List.nodup_nil
  | j :: ks => by
    unfold dedupK
    by_cases h : hasK ks j = true
    · rw [if_pos h]; exact dedupK_nodup ks
    · rw [if_neg h]
      exact List.nodup_cons.mpr ⟨fun z => h (hasK_mem.mpr (dedupK_mem.mp z)), dedupK_nodup ks⟩
def usortK (ks : List Key) : List Key := isort leK (dedupK ks)
theorem usortK_is {ks js : List Key} (nd : js.Nodup) (m : ∀ k, k ∈ js ↔ k ∈ ks) : js.mergeSort (PySem.W.dataLe false datK) = usortK ks := by
  unfold usortK
  rw [isort_eq leK_total, ← leK_is]
  have p : js.Perm (dedupK ks) := (List.perm_ext_iff_of_nodup nd (dedupK_nodup ks)).mpr fun k => (m k).trans dedupK_mem.symm
  exact List.Perm.eq_of_pairwise (fun a b _ _ h1 h2 => leK_anti h1 h2) (PySem.W.sort_pairwise leK_total js) (PySem.W.sort_pairwise leK_total _) (((List.mergeSort_perm js _).trans p).trans (List.mergeSort_perm _ _).symm)
theorem usortK_length (ks : List Key) : (usortK ks).length ≤ ks.length := by
  unfold usortK
  rw [(isort_perm _).length_eq]
  induction ks with
  | nil => exact Nat.le_refl _
  | cons k ks ih =>
    unfold dedupK
    split
    · rw [List.length_cons]; omega
    · rw [List.length_cons, List.length_cons]; omega
/-- all ints, or all texts -/
def homK (ks : List Key) : Bool := ks.all (fun k => match k with | .inl _ => true | .inr _ => false) || ks.all fun k => match k with | .inl _ => false | .inr _ => true
theorem homK_alike {ks : List Key} (h : homK ks = true) {a b : Key} (ha : a ∈ ks) (hb : b ∈ ks) : PySem.W.alike (datK a) (datK b) = true := by
  unfold homK at h
  rw [Bool.or_eq_true, List.all_eq_true, List.all_eq_true] at h
  rcases h with h | h
  · have h1 := h a ha
    have h2 := h b hb
    cases a with
    | inl i => cases b with
      | inl j => simp [datK, PySem.W.alike]
      | inr y => cases h2
    | inr x => cases h1
  · have h1 := h a ha
    have h2 := h b hb
    cases a with
    | inl i => cases h1
    | inr x => cases b with
      | inl j => cases h2
      | inr y => simp [datK, PySem.W.alike]
theorem is_relV {P : Program} {w : World} {k : Key} {v : Value} (h : (mixKind P w).is k v = true) : RelV (kV k) v := by
  have h : keyIs k v = true := h
  cases k with
  | inl i => exact Value.isInt_shape h
  | inr x => exact Value.isStrOf_shape (x := x) (v := v) h
theorem reads_key {P : Program} {w : World} {k : Key} {v : Value} {h : Heap} (e : (mixKind P w).is k v = true) : Reads h v (datK k) [] := by
  have r := is_relV e
  cases k with
  | inl i => obtain ⟨t, rfl⟩ := r; exact .int i t
  | inr x => obtain ⟨t, rfl⟩ := r; exact .str x t
theorem each_keyV {P : Program} {w : World} : ∀ {us : List Value} {ks : List Key}, PySem.W.EachIs (fun v k => (mixKind P w).is k v = true) us ks → Vals (ks.map kV) us
  | _, _, .nil => .nil
  | _, _, .cons r t => .cons (is_relV r) (each_keyV t)
/-! ### the rule -/
def tSortedSet (K : PySem.W.Frag) (ta : TE) : TE := fun σ H Q => ta σ H fun x H1 => ∃ (l : Addr) (ks : List Key), x = .ref l ∧ SqL K H1 l (ks.map kV) ∧ ks.length ≤ 4000 ∧ homK ks = true ∧ ∀ p, H1 p = none → Q (.ref p) (upd H1 p (.lst ((usortK ks).map kV)))
theorem pe_sortedSet {X : Cx} {a : Expr} {ta : TE} {p p2 q pos : Pos} (hc : X.calm = true) (hu : X.A.units + 64 < cLine) (hg : Gl X "sorted") (hm : X.mg "sorted" = none) (hg2 : Gl X "set") (hm2 : X.mg "set" = none) (ha : PE X a ta)
    (na : starEach [a] X.env = (false, eval a X.env) :: starEach [] X.env := by rfl) : PE X (.Call (.Name "sorted" p) [.Call (.Name "set" p2) [a] [] q] [] pos) (tSortedSet X.K ta) := by
  refine ⟨fun pins s σ H Q I h => ?_⟩
  refine Call_ (ld_blt (u := .builtin "sorted") I hg hm rfl ?_)
  refine PyProof.Rows.callWith_builtin1 (PyProof.Rows.args_cons ?_ rfl) rfl rfl
  refine Call_ (ld_blt (u := .type "set") I hg2 hm2 rfl ?_)
  refine PyProof.Rows.callWith_type1 (PyProof.Rows.args_cons (thn (ha.run pins s σ H _ I h) fun v s1 ⟨x, H1, I1, r1, q1⟩ => PyProof.Rows.args_nil ?_) na) na rfl
  obtain ⟨l, ks, rfl, hq, h1, hh, q1⟩ := q1
  cases r1
  obtain ⟨its, rv, pl, hz⟩ := I1.list hq
  have len : its.length = ks.length := by rw [← rv.length, List.length_map]
  refine Ms.call_set_list (knd := mixKind X.prog X.w) ks (I1.ok.hd hc) pl.isList (by rw [List.size_toArray]; exact len) (fun i v e => ?_) (by show ks.length + 1 < 4096; omega) fun h' tk c hS hcl hk => ?_
  · rw [List.getElem?_toArray] at e
    have hi : i < ks.length := by rw [← len]; exact (List.getElem?_eq_some_iff.mp e).1
    have h3 : (ks.map kV)[i]? = some (kV ks[i]) := by rw [List.getElem?_map, List.getElem?_eq_getElem hi]; rfl
    obtain ⟨u, h4, h5⟩ := rv.get h3
    rw [e] at h4; cases h4
    exact ⟨_, List.getElem?_eq_getElem hi, kV_is h5, key_scan h5⟩
  · have I2 : Inv X pins σ H1 { s1 with heap := h', toks := tk } := I1.kept fun b o e => hk b o e
    refine PyProof.Rows.args_nil ?_
    refine Ms.sorted_set (s := { s1 with heap := h', toks := tk }) (dat := datK) hS (I2.ok.hd hc) (fun k v h e => reads_key e) (fun k => by cases k <;> exact ⟨(fun z => by cases z), fun xs z => by cases z⟩) (fun k => by cases k <;> simp [datK, PyData.depth]) (fun k j hk' hj' => homK_alike hh (by simpa using hk') (by simpa using hj')) (by omega) fun s' p out c js k g o hp hg he nd mj lj => ?_
    have ej : js.mergeSort (PySem.W.dataLe false datK) = usortK ks := usortK_is nd fun k => by rw [mj k]; simp
    rw [ej] at he
    have hn : H1 p = none := I2.hok.fresh hp
    have hlen : ((usortK ks).map kV).length ≤ sizeLine := by
      rw [List.length_map, sizeLine_eq]
      have := usortK_length ks
      omega
    have J : Inv X pins σ (upd H1 p (.lst ((usortK ks).map kV))) { ({ s1 with heap := h', toks := tk } : Shared) with heap := s'.heap, gens := s'.gens, drawn := s'.drawn, toks := s'.toks } :=
      I2.call (ch := []) (Un.laid k hp hn) (I2.hok.laid k hp ⟨hlen, out, c, each_keyV he, hg⟩) (by rw [g]; exact I2.bare) (fun _ z => nomatch z)
    have e : s' = { s1 with heap := s'.heap, gens := s'.gens, drawn := s'.drawn, toks := s'.toks } := by
      cases s'
      cases s1
      cases o
      rfl
    rw [e]
    exact ⟨.ref p, _, J, rfl, q1 p hn⟩
/-! ### on data -/
def fSortedSet : F1 := fun x S => match vw S x with
  | .lst ds => match keysOf ds with
    | some ks => if (homK ks && decide (ks.length ≤ 4000)) = true then some (.lst ((usortK ks).map keyD), S) else none
    | none => none
  | _ => none
theorem em_sortedSet {X : Cx} {W : Wsh X.K} {a : Expr} {ma : EM} {p p2 q pos : Pos} {j : Nat} (ft : Fit X j) (hc : X.calm = true) (hg : Gl X "sorted") (hm : X.mg "sorted" = none) (hg2 : Gl X "set") (hm2 : X.mg "set" = none) (ha : PEm X W a ma)
    (na : starEach [a] X.env = (false, eval a X.env) :: starEach [] X.env := by rfl) : PEm X W (.Call (.Name "sorted" p) [.Call (.Name "set" p2) [a] [] q] [] pos) (mUn fSortedSet ma) :=
  PE.imp (pe_sortedSet hc ft.room.units hg hm hg2 hm2 ha na) fun σ H Q ⟨Z, ρ, S, ds, t, h⟩ => by
    refine tE_bind t h fun d1 S1 ρ1 H1 v1 e1 t1 i1 q1 => ?_
    obtain ⟨d, S3, e3, q3⟩ := MP.lift q1
    unfold fSortedSet at e3
    split at e3
    · rename_i es ev
      split at e3
      · rename_i ks ek
        obtain ⟨hc2, e4⟩ := of_if e3
        cases e4
        rw [Bool.and_eq_true, decide_eq_true_eq] at hc2
        obtain ⟨l, vs, rfl, hl, r⟩ := vw_lst t1.ok i1 ev
        have evs := keysOf_is r ek
        subst evs
        exact ⟨l, ks, rfl, hl, hc2.2, hc2.1, fun p hp => q3 ρ1 _ _ (e1.trans (ext_new hp)) (t1.ok.new hp) (new_lst t1.ok hp (is_keyDs _))⟩
      · cases e3
    · cases e3
end Pv

/-! Pv28: dict(list), list(d), list(d.items()), sorted(d), == of dicts. -/
namespace Pv
open PySem PySem.Spec PyProof.Rows L2
/-! ### dict(list of pairs) -/
def pairsD : List D → Option (List (D × D))
  | [] => some []
  | .tup [x, y] :: r => (pairsD r).map fun ps => (x, y) :: ps
  | _ => none
def fDict : FA := fun xs S => match xs with
  | [x] => match vw S x with
    | .lst ds => match pairsD ds with
      | some ps => if ps.length ≤ 1000000 then (mergeD [] [] ps).map fun r => (.oth (.dk r.1) r.2, S) else none
      | none => none
    | _ => none
  | _ => none
def fDictC : FA := fun xs S => match xs with
  | [x] => match vw S x with
    | .lst ds => match pairsD ds with
      | some ps => if ps.length ≤ 1000000 then match mergeD [] [] ps with
        | some r => newDict (.dk r.1) r.2 S
        | none => none
        else none
      | none => none
    | _ => none
  | _ => none
def rDictL (K : PySem.W.Frag) : List V → Hp → VK → Prop := fun xs H Q => ∃ (a : Addr) (ps : List Addr) (kvs : List (Key × V)), xs = [.ref a] ∧ SqL K H a (ps.map V.ref) ∧ Paired (fun p kv => SqT K H p [kV kv.1, kv.2]) ps kvs ∧
  ∀ p, H p = none → Q (.ref p) (upd H p (.dK (mergeK [] kvs)))
theorem pairs_is {K : PySem.W.Frag} {Z ρ : List Addr} {H : Hp} : ∀ {vs : List V} {ds : List D} {qs : List (D × D)}, IsAll K Z ρ H vs ds → pairsD ds = some qs →
    ∃ (as : List Addr) (ps : List (V × V)), vs = as.map V.ref ∧ PairsIs K Z ρ H ps qs ∧ Paired (fun (p : Addr) (q : V × V) => SqT K H p [q.1, q.2]) as ps
  | _, _, qs, .nil, e => by cases e; exact ⟨[], [], rfl, trivial, .nil⟩
  | _, _, qs, .cons (d := d) (ds := ds) i r, e => by
    unfold pairsD at e
    split at e
    · rename_i h1; cases h1
    · rename_i x y rest h1
      cases h1
      obtain ⟨qs', e2, rfl⟩ := mapS e
      obtain ⟨as, ps, e3, h3, h4⟩ := pairs_is r e2
      cases i with
      | tup hq rr =>
        rename_i a us
        obtain ⟨u, w, rfl, iu, iw⟩ := is2 rr
        exact ⟨a :: as, (u, w) :: ps, by rw [e3]; rfl, ⟨iu, iw, h3⟩, .cons hq h4⟩
    · cases e
theorem paired_kV {K : PySem.W.Frag} {H : Hp} : ∀ {as : List Addr} {kvs : List (Key × V)}, Paired (fun (p : Addr) (q : V × V) => SqT K H p [q.1, q.2]) as (kvs.map fun kv => (kV kv.1, kv.2)) → Paired (fun p kv => SqT K H p [kV kv.1, kv.2]) as kvs
  | _, [], .nil => .nil
  | _, _ :: _, .cons h t => .cons h (paired_kV t)
theorem dictL_of {K : PySem.W.Frag} {Z ρ : List Addr} {S : Sto} {H : Hp} {v : V} {x : D} {es : List D} {ps : List (D × D)} {r : List Key × List D} {Q : VK} (k : Ok K Z ρ S H) (iv : Is K Z ρ H v x) (e : vw S x = .lst es) (e2 : pairsD es = some ps) (e3 : mergeD [] [] ps = some r)
    (q : ∀ p ws, H p = none → r.1.length = ws.length → IsAll K Z ρ H ws r.2 → Q (.ref p) (upd H p (.dK (r.1.zip ws)))) : rDictL K [v] H Q := by
  obtain ⟨a, vs, rfl, hl, ra⟩ := vw_lst k iv e
  obtain ⟨as, qs, rfl, h1, h2⟩ := pairs_is ra e2
  obtain ⟨kvs, ws, e4, e5, e6, e7, e8⟩ := merge_is h1 (ks := []) (vs := []) rfl .nil e3
  subst e4
  refine ⟨a, as, kvs, rfl, hl, paired_kV h2, fun p hp => ?_⟩
  rw [show mergeK [] kvs = r.1.zip ws from e6]
  exact q p ws hp e7 e8
theorem cd_dict (K : PySem.W.Frag) : CallD K (rDictL K) fDict := by
  intro Z ρ S S' H xs ds d Q k i h q
  unfold fDict at h
  split at h
  · obtain ⟨v, rfl, iv⟩ := is1 i
    split at h
    · rename_i es e
      split at h
      · rename_i ps e2
        by_cases hz : ps.length ≤ 1000000
        · rw [if_pos hz] at h
          obtain ⟨r, e3, e4⟩ := mapS h
          cases e4
          exact dictL_of k iv e e2 e3 fun p ws hp hl ra => q ρ _ _ (ext_new hp) (k.new hp) (.oth (.of (t := .dk r.1) upd_same hl (k.nf hp) (k.nz hp)) (ra.mono k (ext_new hp)))
        · rw [if_neg hz] at h; cases h
      · cases h
    · cases h
  · cases h
theorem cd_dictC (K : PySem.W.Frag) : CallD K (rDictL K) fDictC := by
  intro Z ρ S S' H xs ds d Q k i h q
  unfold fDictC at h
  split at h
  · obtain ⟨v, rfl, iv⟩ := is1 i
    split at h
    · rename_i es e
      split at h
      · rename_i ps e2
        by_cases hz : ps.length ≤ 1000000
        · rw [if_pos hz] at h
          split at h
          · rename_i r e3
            cases h
            exact dictL_of k iv e e2 e3 fun p ws hp hl ra => by
              obtain ⟨k2, e5, i2⟩ := k.cell_oth (t := .dk r.1) hp hl ra
              exact q _ _ _ e5 k2 i2
          · cases h
        · rw [if_neg hz] at h; cases h
      · cases h
    · cases h
  · cases h
/-! ### list(d) -/
def rListDR : List V → Hp → VK → Prop := fun xs H Q => ∃ (a : Addr) (kvs : List (Key × V)), xs = [.ref a] ∧ Rd H a (.dK kvs) ∧ ∀ p, H p = none → Q (.ref p) (upd H p (.lst (kvs.map fun kv => kV kv.1)))
theorem cr_listDR {X : Cx} (hc : X.calm = true) : CallR X (.type "list") rListDR := by
  rintro pins s σ H xs us Q I r ⟨a, kvs, rfl, hd, q⟩
  obtain ⟨u, rfl, rx⟩ := vals1 r
  obtain rfl : u = Value.ref a := rx
  obtain ⟨z, lo, vs, rk, dd⟩ := dk_rd I.hok hd
  obtain ⟨ep, hat⟩ := dd.dictAt
  have lkv : kvs.length = vs.length := Paired.length rk
  refine PySem.W.kdl_call (PySem.W.kdl_dict (knd := mixKind X.prog X.w) (kvs := vs) (ep := ep) lo) (I.ok.hd hc) hat (by rw [← lkv]; exact z) fun h' tk acc c kp hS ha => ?_
  have nm : H s.heap.objs.size = none := I.hok.fresh (Nat.le_refl _)
  have sz : acc.toList.length = kvs.length := by rw [Array.length_toList, ha.1, lkv]
  have vv : Vals (kvs.map fun kv => kV kv.1) acc.toList := vals_of_at (by rw [List.length_map, sz]) fun j x w h1 h2 => by
    obtain ⟨k, y, hky, hi⟩ := ha.2 j w (by rw [← Array.getElem?_toList]; exact h2)
    have h3 : (kvs.map (·.1))[j]? = some k := by rw [rk.keys, List.getElem?_map, hky]; rfl
    rw [List.getElem?_map] at h1 h3
    cases h4 : kvs[j]? with
    | none => rw [h4] at h1; cases h1
    | some kv =>
      rw [h4] at h1 h3
      cases h1
      have h5 : kv.1 = k := Option.some.inj h3
      show RelV (kV kv.1) w
      rw [h5]
      exact is_relV (P := X.prog) (w := X.w) hi
  exact ⟨.ref _, _, I.laid (t' := tk) (o := .lst (kvs.map fun kv => kV kv.1)) kp (Nat.le_refl _) ⟨by rw [List.length_map]; exact z, acc.toList, c, vv, by rw [Array.toArray_toList]; exact hS⟩, rfl, q _ nm⟩
def fListA : FA := fun xs S => match xs with
  | [x] => match vw S x with
    | .oth (.dk ks) _ => some (.lst (ks.map keyD), S)
    | _ => fList xs S
  | _ => none
theorem zip_keys {ks : List Key} {vs : List V} (h : ks.length = vs.length) : ((ks.zip vs).map fun kv => kV kv.1) = ks.map kV := by
  have e : ((ks.zip vs).map fun kv => kV kv.1) = ((ks.zip vs).map (·.1)).map kV := by rw [List.map_map]; rfl
  rw [e, zip_fst h]
theorem cd_listA (K : PySem.W.Frag) : CallD K (fun xs H Q => rListOf K xs H Q ∨ rListDR xs H Q) fListA := by
  intro Z ρ S S' H xs ds d Q k i h q
  unfold fListA at h
  split at h
  · obtain ⟨v, rfl, iv⟩ := is1 i
    split at h
    · rename_i ks es e
      cases h
      obtain ⟨a, vs, rfl, hl, hd, r⟩ := vw_dk k iv e
      refine .inr ⟨a, _, rfl, hd, fun p hp => ?_⟩
      rw [zip_keys hl]
      exact q ρ _ _ (ext_new hp) (k.new hp) (new_lst k hp (is_keyDs _))
    · exact .inl (cd_list K Z ρ S S' H [v] _ d Q k i h q)
  · cases h
theorem b_listA {X : Cx} (hm : X.mg "list" = none) (hc : X.calm = true := by rfl) : Blt X "list" fListA := ⟨hm, by decide, by decide, _, cd_listA _, .inr ⟨_, rfl, CallR.or call_list_of (cr_listDR hc)⟩⟩
theorem b_dict {X : Cx} (hm : X.mg "dict" = none) (hc : X.calm = true := by rfl) : Blt X "dict" fDict := ⟨hm, by decide, by decide, _, cd_dict _, .inr ⟨_, rfl, call_dictP hc⟩⟩
theorem b_dictC {X : Cx} (hm : X.mg "dict" = none) (hc : X.calm = true := by rfl) : Blt X "dict" fDictC := ⟨hm, by decide, by decide, _, cd_dictC _, .inr ⟨_, rfl, call_dictP hc⟩⟩
/-! ### sorted(d) -/
def rSortedDK : List V → Hp → VK → Prop := fun xs H Q => ∃ (a : Addr) (kvs : List (Key × V)), xs = [.ref a] ∧ Rd H a (.dK kvs) ∧ homK (kvs.map (·.1)) = true ∧ ∀ p, H p = none → Q (.ref p) (upd H p (.lst ((isort leK (kvs.map (·.1))).map kV)))
theorem cr_sortedDK {X : Cx} (hc : X.calm = true) (hu : X.A.units + 64 < cLine) : CallR X (.builtin "sorted") rSortedDK := by
  rintro pins s σ H xs us Q I r ⟨a, kvs, rfl, hd, hh, q⟩
  obtain ⟨u, rfl, rx⟩ := vals1 r
  obtain rfl : u = Value.ref a := rx
  obtain ⟨z, lo, vs, rk, dd⟩ := dk_rd I.hok hd
  obtain ⟨ep, hat⟩ := dd.dictAt
  have lkv : kvs.length = vs.length := Paired.length rk
  refine Calls.call_function_entry PyProof.Rows.kind_sorted PyProof.Rows.plain_sorted PyProof.Rows.entry_sorted (PyProof.Rows.args_sorted1 _) ?_
  unfold Builtin.«sorted»
  refine wpAny_bind (m := checkCount "sorted" 1 1 _) (wpAny_pure ?_)
  refine wpAny_bind (PySem.W.kdu_collect (A := X.A.in1) (PySem.W.kdl_dict (knd := mixKind X.prog X.w) (kvs := vs) (ep := ep) lo) (I.ok.hd hc) hat (by rw [← lkv]; exact z) fun h' tk acc kp ha => ?_)
  have sz : acc.toList.length = kvs.length := by rw [Array.length_toList, ha.1, lkv]
  have ek : PySem.W.EachIs (fun v k => (mixKind X.prog X.w).is k v = true) acc.toList (kvs.map (·.1)) := each_zip (by rw [sz, List.length_map]) fun j v k h1 h2 => by
    obtain ⟨k', y, hky, hi⟩ := ha.2 j v (by rw [← Array.getElem?_toList]; exact h1)
    rw [rk.keys, List.getElem?_map, hky] at h2
    cases h2
    exact hi
  have I1 : Inv X pins σ H { s with heap := h', toks := tk } := I.kept kp
  refine wpAny_bind (wpAny_newList ?_ (by rw [sz]; exact z))
  have hoL : (h'.push (seqObj "list" acc.toList.toArray 0)).get? h'.objs.size = some (seqObj "list" acc.toList.toArray 0) := Heap.get?_push_size _ rfl
  have er : ∀ {l : List Value} {js : List Key}, PySem.W.EachIs (fun v k => (mixKind X.prog X.w).is k v = true) l js → PySem.W.EachIs (fun v k => ∃ as, Reads (h'.push (seqObj "list" acc.toList.toArray 0)) v (datK k) as ∧ h'.objs.size ∉ as) l js := fun e => e.mono fun v k h => ⟨[], reads_key h, by simp⟩
  refine wpAny_bind (wpAny_holding (PySem.W.list_sort_data (s := { s with heap := h'.push (seqObj "list" acc.toList.toArray 0), toks := tk }) (bs := kvs.map (·.1)) (enc := datK) (R := fun v k => (mixKind X.prog X.w).is k v = true) hoL ek (er ek) ?_ ?_ (by rw [List.length_map]; exact z) ?_ fun out lo eo => ?_))
  · intro d hd1 e he1
    obtain ⟨k, hk, rfl⟩ := List.mem_map.mp hd1
    obtain ⟨j, hj, rfl⟩ := List.mem_map.mp he1
    exact homK_alike hh hk hj
  · exact .inr fun d hd1 => by
      obtain ⟨k, hk, rfl⟩ := List.mem_map.mp hd1
      cases k <;> exact ⟨(fun z => by cases z), fun xs z => by cases z⟩
  · intro k hk
    have : (datK k).depth = 0 := by cases k <;> simp [datK, PyData.depth]
    rw [this]
    show X.A.units + 1 + 1 + 0 < cLine
    omega
  · obtain ⟨c, hc2⟩ := sortedHeap_at (vs := acc.toList) (out := out.toArray) hoL
    rw [← leK_is, ← isort_eq leK_total] at eo
    have hn : H h'.objs.size = none := I1.hok.fresh (Nat.le_refl _)
    have kp2 : ∀ b u, h'.get? b = some u → (sortedHeap (h'.push (seqObj "list" acc.toList.toArray 0)) h'.objs.size acc.toList out.toArray).get? b = some u := fun b u q => by
      have hlt := Heap.lt_size q
      rw [sortedHeap_old (Nat.ne_of_lt hlt) (by rw [Heap.size_push]; exact Nat.lt_succ_of_lt hlt)]
      exact Heap.get?_push_of_some _ q
    have hlen : ((isort leK (kvs.map (·.1))).map kV).length ≤ sizeLine := by
      rw [List.length_map, (isort_perm _).length_eq, List.length_map]
      exact z
    exact wpAny_pure ⟨_, rfl, .ref _, _, I1.laid (t' := tk) (o := .lst ((isort leK (kvs.map (·.1))).map kV)) kp2 (Nat.le_refl _) ⟨hlen, out, c, each_keyV eo, hc2⟩, rfl, q _ hn⟩
def fSortedB : FA := fun xs S => match xs with
  | [x] => match vw S x with
    | .oth (.dk ks) _ => if homK ks then some (.lst ((isort leK ks).map keyD), S) else none
    | _ => fSortedA xs S
  | _ => none
theorem cd_sortedB (K : PySem.W.Frag) : CallD K (fun xs H Q => rSortedAny K xs H Q ∨ rSortedDK xs H Q) fSortedB := by
  intro Z ρ S S' H xs ds d Q k i h q
  unfold fSortedB at h
  split at h
  · obtain ⟨v, rfl, iv⟩ := is1 i
    split at h
    · rename_i ks es e
      obtain ⟨hh, e2⟩ := of_if h
      cases e2
      obtain ⟨a, vs, rfl, hl, hd, r⟩ := vw_dk k iv e
      refine .inr ⟨a, _, rfl, hd, by rw [zip_fst hl]; exact hh, fun p hp => ?_⟩
      rw [zip_fst hl]
      exact q ρ _ _ (ext_new hp) (k.new hp) (new_lst k hp (is_keyDs _))
    · exact .inl (cd_sortedAny K Z ρ S S' H [v] _ d Q k i h q)
  · cases h
theorem b_sortedB {X : Cx} {j : Nat} (ft : Fit X j) (hm : X.mg "sorted" = none) (hc : X.calm = true := by rfl) : Blt X "sorted" fSortedB := ⟨hm, by decide, by decide, _, cd_sortedB _, .inl ⟨_, rfl, CallR.or (cr_sortedAny ft.room.units) (cr_sortedDK hc ft.room.units)⟩⟩
end Pv

/-! Pv29: list(d.items()), == of dicts. -/
namespace Pv
open PySem PySem.Spec PyProof.Rows L2
/-! ### list(d.items()) -/
def rItemsR : V → Hp → VK → Prop := fun x H Q => ∃ (d : Addr) (kvs : List (Key × V)), x = .ref d ∧ Rd H d (.dK kvs) ∧
  ∀ (H' : Hp) (p : Addr) (ts : List Addr), (∀ b o, H b = some o → H' b = some o) → H p = none → (∀ t ∈ ts, H t = none) → p ∉ ts → H' p = some (.lst (ts.map V.ref)) → Paired (fun (t : Addr) (q : Key × V) => H' t = some (.tup [kV q.1, q.2])) ts kvs → Q (.ref p) H'
section
variable {X : Cx} {W : Wsh X.K} {e : Expr} {te : TE} {p apos cpos pos : Pos} {ma : EM}
theorem pe_listItemsR (hc : X.calm = true) (he : PE X e te) (hg : Gl X "list") (hm : X.mg "list" = none) (hbase : attributeBase e "items" X.env (eval e X.env) = eval e X.env := by rfl) (hline : (apos.endLine == cpos.line) = true := by rfl)
    (hs : starEach [.Call (.Attribute e "items" apos) [] [] cpos] X.env = (false, eval (.Call (.Attribute e "items" apos) [] [] cpos) X.env) :: starEach [] X.env := by rfl) :
    PE X (.Call (.Name "list" p) [.Call (.Attribute e "items" apos) [] [] cpos] [] pos) (fun σ H Q => te σ H fun x H1 => rItemsR x H1 Q) := by
  refine ⟨fun pins s σ H Q I hq => wpAny_Call_Name_kw (ld_blt (u := .type "list") I hg hm rfl (PyProof.Rows.callWith_type1 ?_ hs rfl))⟩
  rw [hs]
  show wpAny _ _ (spliced ((false, eval (.Call (.Attribute e "items" apos) [] [] cpos) X.env) :: backTo pos (starEach [] X.env))) _ _ s
  refine Calls.spliced_cons (wpAny_Call_method (T := "dict") (id := "dict.items") hbase rfl hline F.plainAttrs_dict F.slot_dict_items F.type_dict_items (thn (he.run pins s σ H _ I hq) fun u s1 ⟨x, H1, I1, rx, d, kvs, ex, hd, q⟩ => ?_))
  subst ex
  obtain rfl : u = Value.ref d := rx
  obtain ⟨z, lo, vs, rk, dd⟩ := dk_rd I1.hok hd
  obtain ⟨ep, hat⟩ := dd.dictAt
  have lkv : kvs.length = vs.length := Paired.length rk
  have I2 : Inv X pins σ H1 { s1 with heap := s1.heap.push { cls := .type "dict_items", data := .fields #[.ref d] } } := I1.kept (t' := s1.toks) fun b ob q => Heap.get?_push_of_some _ q
  refine ⟨dd.typeIs, dd.mapOf.noDict, ?_⟩
  show wpAny _ _ (callWith cpos (.builtin "dict.items") [.ref d] [] []) _ X.xe s1
  refine method_meetsIn F.slot_dict_items F.entry_dict_items rfl (PySem.evalArgs_none ⟨rfl, dd.typeIs, F.args_dict_items_1 _, _, meets_dict_items (mixKind X.prog X.w) d lo, ⟨vs, dd⟩, Calls.spliced_nil ?_⟩)
  refine PySem.W.kdx_call (knd := mixKind X.prog X.w) (kvs := vs) (ep := ep) (I1.ok.hd hc) ⟨_, Heap.get?_push_size _ rfl, rfl, rfl⟩ (hat.push _) (by omega) fun h' tk acc c as hk hS hl hG ha => ?_
  obtain ⟨H', k1, k2, k3, k4, k5, k6, J⟩ := LiI.items_laid (tk := tk) I2 z rk hk hS hl hG ha
  exact ⟨.ref _, H', J, rfl, q H' _ as k1 k2 k3 k4 k5 k6⟩
def itemsD (ks : List Key) (ds : List D) : List D := ks.zipWith (fun k d => .tup [keyD k, d]) ds
def fItems : F1 := fun x S => match vw S x with
  | .oth (.dk ks) ds => some (.lst (itemsD ks ds), S)
  | _ => none
theorem items_is {K : PySem.W.Frag} {Z ρ : List Addr} {H : Hp} : ∀ {ks : List Key} {vs : List V} {ds : List D} {ts : List Addr}, IsAll K Z ρ H vs ds → ks.length = vs.length → Paired (fun (t : Addr) (q : Key × V) => H t = some (.tup [kV q.1, q.2])) ts (ks.zip vs) → IsAll K Z ρ H (ts.map V.ref) (itemsD ks ds)
  | [], _, _, _, .nil, _, .nil => .nil
  | k :: ks, _, _, _, .cons i r, h, .cons e t => .cons (.tup (SqT.of e) (.cons (is_keyD k) (.cons i .nil))) (items_is r (by simpa using h) t)
  | [], _, _, _, .cons i r, h, _ => by simp at h
  | k :: ks, _, _, _, .nil, h, _ => by simp at h
theorem em_listItems (hc : X.calm = true) (hg : Gl X "list") (hm : X.mg "list" = none) (he : PEm X W e ma) (hbase : attributeBase e "items" X.env (eval e X.env) = eval e X.env := by rfl) (hline : (apos.endLine == cpos.line) = true := by rfl)
    (hs : starEach [.Call (.Attribute e "items" apos) [] [] cpos] X.env = (false, eval (.Call (.Attribute e "items" apos) [] [] cpos) X.env) :: starEach [] X.env := by rfl) :
    PEm X W (.Call (.Name "list" p) [.Call (.Attribute e "items" apos) [] [] cpos] [] pos) (mUn fItems ma) :=
  PE.imp (pe_listItemsR hc he hg hm hbase hline hs) fun σ H Q ⟨Z, ρ, S, ds, t, h⟩ => by
    refine tE_bind t h fun d1 S1 ρ1 H1 v1 e1 t1 i1 q1 => ?_
    obtain ⟨d, S3, e3, q3⟩ := MP.lift q1
    unfold fItems at e3
    split at e3
    · rename_i ks es ev
      cases e3
      obtain ⟨a, vs, rfl, hl, hd, r⟩ := vw_dk t1.ok i1 ev
      refine ⟨a, _, rfl, hd, fun H' p ts k1 k2 k3 k4 k5 k6 => ?_⟩
      have ex : Ext ρ1 H1 ρ1 H' := ⟨⟨[], by simp, fun _ h => by cases h⟩, fun b o _ q => k1 b o q, fun b o q => ⟨o, k1 b o q⟩, fun b o u q => k1 b _ q⟩
      have same : ∀ b, (∃ o, H1 b = some o) → H' b = H1 b := fun b ⟨o, q⟩ => by rw [q, k1 b o q]
      have k' : Ok X.K Z ρ1 S1 H' := t1.ok.step ex (fun b hb => same b (let ⟨o, h, _⟩ := t1.ok.ho hb; ⟨o, h⟩)) (fun b hb => same b (let ⟨o, h, _⟩ := t1.ok.zt b hb; ⟨o, h⟩))
      refine q3 ρ1 H' _ (e1.trans ex) k' (.lst ⟨k5, fun z => ?_, fun z => ?_⟩ (items_is (r.mono t1.ok ex) hl k6))
      · exact t1.ok.nf k2 z
      · exact t1.ok.nz k2 z
    · cases e3
end
/-! ### == of dicts -/
def allEq (js : List Key) (es : List D) : List Key → List D → Bool
  | k :: ks, d :: ds => match lookK js es k with
    | some e => deq d e && allEq js es ks ds
    | none => false
  | _, _ => true
def eqDict (ks : List Key) (ds : List D) (js : List Key) (es : List D) : Bool := ks.length == js.length && allEq js es ks ds
def eqOkAll (ds : List D) : Bool := ds.all eqOk
def fEqA : F2 := fun x y S => match vw S x, vw S y with
  | .oth (.dk ks) ds, .oth (.dk js) es => if (eqOkAll ds && eqOkAll es) = true then some (.bl (eqDict ks ds js es), S) else none
  | _, _ => fEq x y S
def fNeA : F2 := fun x y S => match vw S x, vw S y with
  | .oth (.dk ks) ds, .oth (.dk js) es => if (eqOkAll ds && eqOkAll es) = true then some (.bl (!eqDict ks ds js es), S) else none
  | _, _ => fNe x y S
inductive HitsD (K : PySem.W.Frag) (H : Hp) (lb : List (Key × V)) : List (Key × V) → Bool → Prop
  | nil : HitsD K H lb [] true
  | miss {k : Key} {v : V} {r : List (Key × V)} : valV lb k = none → HitsD K H lb ((k, v) :: r) false
  | hit {k : Key} {v u : V} {r : List (Key × V)} {p q : PyData} {b : Bool} : valV lb k = some u → Dp K H v p → Dp K H u q → SeqAt.shaped p = true → SeqAt.shaped q = true → HitsD K H lb r b → HitsD K H lb ((k, v) :: r) (PyData.eqv p q && b)
def rEqDict (K : PySem.W.Frag) (n : Bool) : R2 := fun x y H Q => ∃ (a b : Addr) (la lb : List (Key × V)) (r : Bool), x = .ref a ∧ y = .ref b ∧ Rd H a (.dK la) ∧ Rd H b (.dK lb) ∧ HitsD K H lb la r ∧ Q (.bl (n ^^ (la.length == lb.length && r))) H
section
variable {X : Cx}
theorem hits_run {pins : List (Addr × Obj)} {σ : L2.St} {H : Hp} {s : Shared} {A : Around} (I : Inv X pins σ H s) (hu : A.in1.units + 64 < cLine) {lb : List (Key × V)} {vb : List (Key × Value)} (rb : KV lb vb) : ∀ {la : List (Key × V)} {r : Bool}, HitsD X.K H lb la r → ∀ {va : List (Key × Value)}, KV la va → PySem.W.KeqHits A.in1 s vb va r
  | _, _, .nil, _, .nil => .nil
  | _, _, .miss e, _, .cons (b := b) h t => by
    obtain ⟨k, v⟩ := b
    have hk : _ = k := h.1
    subst hk
    exact .miss (RelO.none_of (by rw [← e]; exact rb.val _))
  | _, _, .hit (k := k) e dp dq sp sq rest, _, .cons (b := b) h t => by
    obtain ⟨k', v⟩ := b
    have hk : k = k' := h.1
    subst hk
    obtain ⟨w', hw, rw'⟩ := RelO.some_of (v := _) (o := valueAt vb k) (by rw [← e]; exact rb.val k)
    obtain ⟨as, r1⟩ := Dp.reads I _ _ v dp h.2
    obtain ⟨bs, r2⟩ := Dp.reads I _ _ w' dq rw'
    exact .hit hw (PySem.W.keq_at r1 r2 sp sq hu) (hits_run I hu rb rest t)
theorem op_eqDict (hu : X.A.units + 65 < cLine) : OpR X (compareOp .Eq) (rEqDict X.K false) := by
  rintro pins s σ H x y v u Q I rx ry ⟨a, b, la, lb, r, rfl, rfl, ha, hb, hh, q⟩
  obtain rfl : v = Value.ref a := rx
  obtain rfl : u = Value.ref b := ry
  obtain ⟨_, lo, vs, rk, dd⟩ := dk_rd I.hok ha
  obtain ⟨_, lo', us, rk', dd'⟩ := dk_rd I.hok hb
  refine PySem.W.keq_eq lo lo' dd dd' (by omega) (fun _ => hits_run I (by show X.A.units + 1 + 64 < cLine; omega) rk' hh rk) ⟨.bl _, H, I, rfl, ?_⟩
  rw [← Paired.length rk, ← Paired.length rk', ← Bool.false_xor (la.length == lb.length && r)]
  exact q
theorem op_neDict (hu : X.A.units + 65 < cLine) : OpR X (compareOp .NotEq) (rEqDict X.K true) := by
  rintro pins s σ H x y v u Q I rx ry ⟨a, b, la, lb, r, rfl, rfl, ha, hb, hh, q⟩
  obtain rfl : v = Value.ref a := rx
  obtain rfl : u = Value.ref b := ry
  obtain ⟨_, lo, vs, rk, dd⟩ := dk_rd I.hok ha
  obtain ⟨_, lo', us, rk', dd'⟩ := dk_rd I.hok hb
  refine PySem.W.keq_ne lo lo' dd dd' (by omega) (fun _ => hits_run I (by show X.A.units + 1 + 64 < cLine; omega) rk' hh rk) ⟨.bl _, H, I, rfl, ?_⟩
  rw [← Paired.length rk, ← Paired.length rk', ← Bool.true_xor (la.length == lb.length && r)]
  exact q
end
theorem hits_of {K : PySem.W.Frag} {Z ρ : List Addr} {H : Hp} {js : List Key} {us : List V} {es : List D} (rb : IsAll K Z ρ H us es) (hb : js.length = us.length) (ob : eqOkAll es = true) : ∀ {ks : List Key} {vs : List V} {ds : List D}, IsAll K Z ρ H vs ds → ks.length = vs.length → eqOkAll ds = true → HitsD K H (js.zip us) (ks.zip vs) (allEq js es ks ds)
  | [], _, _, _, _, _ => .nil
  | k :: ks, _, _, .nil, h, _ => by simp at h
  | k :: ks, _, _, .cons (d := d) (ds := ds) i r, h, o => by
    have o' : (eqOk d && eqOkAll ds) = true := o
    rw [Bool.and_eq_true] at o'
    unfold allEq
    cases e : lookK js es k with
    | none => exact .miss (lookK_none rb hb e)
    | some e' =>
      obtain ⟨u, e1, iu⟩ := lookK_is rb e
      have oe : eqOk e' = true := by
        have hm : e' ∈ es := by
          clear o o' rb hb ob e1 iu
          induction js generalizing es with
          | nil => cases e
          | cons j js ih =>
            cases es with
            | nil => cases e
            | cons x es =>
              unfold lookK at e
              by_cases q : j = k
              · rw [if_pos q] at e; cases e; exact List.mem_cons_self
              · rw [if_neg q] at e; exact List.mem_cons_of_mem _ (ih e)
        exact List.all_eq_true.mp ob e' hm
      obtain ⟨p, ep, sp⟩ := eqOk_py o'.1
      obtain ⟨q, eq, sq⟩ := eqOk_py oe
      show HitsD K H (js.zip us) ((k, _) :: ks.zip _) (deq d e' && allEq js es ks ds)
      rw [← eqv_deq d e' p q ep eq]
      exact .hit e1 (i.dp ep) (iu.dp eq) sp sq (hits_of rb hb ob r (by simpa using h) o'.2)
theorem eqDict_of {K : PySem.W.Frag} {Z ρ : List Addr} {S : Sto} {H : Hp} {x y : V} {dx dy : D} {ks js : List Key} {ds es : List D} {Q : VK} {n : Bool} (k : Ok K Z ρ S H) (ix : Is K Z ρ H x dx) (iy : Is K Z ρ H y dy) (e1 : vw S dx = .oth (.dk ks) ds) (e2 : vw S dy = .oth (.dk js) es)
    (o : (eqOkAll ds && eqOkAll es) = true) (q : Q (.bl (n ^^ eqDict ks ds js es)) H) : rEqDict K n x y H Q := by
  rw [Bool.and_eq_true] at o
  obtain ⟨a, vs, rfl, hl, hd, r⟩ := vw_dk k ix e1
  obtain ⟨b, us, rfl, hl', hd', r'⟩ := vw_dk k iy e2
  refine ⟨a, b, _, _, _, rfl, rfl, hd, hd', hits_of r' hl' o.2 r hl o.1, ?_⟩
  rw [List.length_zip, List.length_zip, ← hl, ← hl', Nat.min_self, Nat.min_self]
  exact q
theorem od_eqA (K : PySem.W.Frag) : OpD K (fun x y H Q => rEqA K x y H Q ∨ rEqDict K false x y H Q) fEqA := by
  intro Z ρ S S' H x y dx dy d Q k ix iy h q
  unfold fEqA at h
  split at h
  · rename_i ks ds js es e1 e2
    obtain ⟨o, e3⟩ := of_if h
    cases e3
    exact .inr (eqDict_of k ix iy e1 e2 o (by rw [Bool.false_xor]; exact q.val k (.bl _)))
  · exact .inl (od_eq K Z ρ S S' H x y dx dy d Q k ix iy h q)
theorem od_neA (K : PySem.W.Frag) : OpD K (fun x y H Q => rNeA K x y H Q ∨ rEqDict K true x y H Q) fNeA := by
  intro Z ρ S S' H x y dx dy d Q k ix iy h q
  unfold fNeA at h
  split at h
  · rename_i ks ds js es e1 e2
    obtain ⟨o, e3⟩ := of_if h
    cases e3
    exact .inr (eqDict_of k ix iy e1 e2 o (by rw [Bool.true_xor]; exact q.val k (.bl _)))
  · exact .inl (od_ne K Z ρ S S' H x y dx dy d Q k ix iy h q)
theorem c_eqA {X : Cx} {j : Nat} (ft : Fit X j) : Cmp X .Eq fEqA := ⟨_, (or_eq ft.room.units).or (op_eqDict ft.u65), od_eqA _⟩
theorem c_neA {X : Cx} {j : Nat} (ft : Fit X j) : Cmp X .NotEq fNeA := ⟨_, (or_ne ft.room.units).or (op_neDict ft.u65), od_neA _⟩
end Pv

/-! Pv30: dicts that are walked: locked, unlocked. -/
noncomputable section
namespace Pv
open PySem PySem.Spec PyProof.Rows L2
/-! ### one place of the heap is swapped -/
structure Sw (K : PySem.W.Frag) (Z ρ : List Addr) (H : Hp) (d : Addr) (w : HO) : Prop where
  l : ∀ a vs, LstAt Z ρ H a vs → a ≠ d
  t : ∀ a vs, SqT K H a vs → SqT K (upd H d w) a vs
  s : ∀ a vs, ScrAt K ρ H a vs → ScrAt K ρ (upd H d w) a vs
  o : ∀ t a vs, OthAt Z ρ H t a vs → OthAt Z ρ (upd H d w) t a vs
def DO : HO → Prop
  | .dK _ => True
  | .dT _ => True
  | _ => False
theorem DO.mut {u : HO} (h : DO u) : Mut (some u) := by cases u <;> first | exact trivial | exact h.elim
section
variable {K : PySem.W.Frag} {Z ρ ρ' : List Addr} {S S' : Sto} {H H' : Hp} {v : V} {x : D} {vs : List V} {ds : List D} {d : Addr} {u w : HO} {od : Obj} {σ : L2.St} {en : En}
mutual
theorem Is.sw (h : Sw K Z ρ H d w) : ∀ {v : V} {x : D}, Is K Z ρ H v x → Is K Z ρ (upd H d w) v x
  | _, _, .non => .non
  | _, _, .bl b => .bl b
  | _, _, .int i => .int i
  | _, _, .str x => .str x
  | _, _, .tup q r => .tup (h.t _ _ q) (IsAll.sw h r)
  | _, _, .lst q r => .lst ⟨by rw [upd_ne (h.l _ _ q)]; exact q.1, q.2⟩ (IsAll.sw h r)
  | _, _, .cell q => .cell q
  | _, _, .ty n => .ty n
  | _, _, .scr q r => .scr (h.s _ _ q) (IsAll.sw h r)
  | _, _, .oth q r => .oth (h.o _ _ _ q) (IsAll.sw h r)
theorem IsAll.sw (h : Sw K Z ρ H d w) : ∀ {vs : List V} {ds : List D}, IsAll K Z ρ H vs ds → IsAll K Z ρ (upd H d w) vs ds
  | _, _, .nil => .nil
  | _, _, .cons q r => .cons (Is.sw h q) (IsAll.sw h r)
end
theorem EnvIs.sw (n : EnvIs K Z ρ H σ en) (h : Sw K Z ρ H d w) : EnvIs K Z ρ (upd H d w) σ en := ⟨n.len, fun i d q => let ⟨v, a, b⟩ := n.get i d q; ⟨v, a, b.sw h⟩⟩
theorem Ok.sw (k : Ok K Z ρ S H) (h : Sw K Z ρ H d w) (hr : d ∉ ρ) (hz : d ∉ Z) : Ok K Z ρ S (upd H d w) where
  len := k.len
  nd := k.nd
  zd := k.zd
  zt := fun a q => by rw [upd_ne (fun z => hz (by rw [← z]; exact q))]; exact k.zt a q
  cell := fun i a q h1 h2 => by
    obtain ⟨us, e1, r⟩ := k.cell i a q h1 h2
    exact ⟨us, e1.at (upd_ne (fun z => hr (by rw [← z]; exact List.mem_of_getElem? h1))), r.sw h⟩
/-- a dict that nobody changes is locked -/
theorem Sw.lk (hd : H d = some u) (du : DO u) : Sw K Z ρ H d (.frz od u) where
  l := fun a vs q z => by rw [z] at q; have e := q.1; rw [hd] at e; cases e; exact du
  t := fun a vs q => by
    rcases q with (q | ⟨o, q⟩) | q
    · exact .inl (.inl (by rw [upd_ne (fun z => by rw [z, hd] at q; cases q; exact du)]; exact q))
    · exact .inl (.inr ⟨o, by rw [upd_ne (fun z => by rw [z, hd] at q; cases q; exact du)]; exact q⟩)
    · exact .inr q
  s := fun a vs q => by
    rcases q with ⟨o, q, n⟩ | q
    · exact .inl ⟨o, by rw [upd_ne (fun z => by rw [z, hd] at q; cases q; exact du)]; exact q, n⟩
    · exact .inr q
  o := fun t a vs q => by
    obtain ⟨G, g, q⟩ := q.ex
    cases t with
    | dk ks =>
      obtain ⟨w, z, rfl, hz⟩ := g
      obtain ⟨h1, h2, h3⟩ := q _ List.mem_cons_self
      by_cases e : a = d
      · subst e
        have e2 : u = z := by have := hd.symm.trans h1; exact Option.some.inj this
        subst e2
        refine ⟨[(a, .frz od u)], ⟨w, _, rfl, .inr ⟨od, ?_⟩⟩, fun p hp => by rw [List.mem_singleton.mp hp]; exact ⟨upd_same, h2, h3⟩⟩
        rcases hz with rfl | ⟨o, rfl⟩
        · rfl
        · exact du.elim
      · exact ⟨_, ⟨w, z, rfl, hz⟩, fun p hp => by rw [List.mem_singleton.mp hp]; exact ⟨by rw [upd_ne e]; exact h1, h2, h3⟩⟩
    | dt ks =>
      obtain ⟨w, z, rfl, hz⟩ := g
      obtain ⟨h1, h2, h3⟩ := q _ List.mem_cons_self
      by_cases e : a = d
      · subst e
        have e2 : u = z := by have := hd.symm.trans h1; exact Option.some.inj this
        subst e2
        refine ⟨[(a, .frz od u)], ⟨w, _, rfl, .inr ⟨od, ?_⟩⟩, fun p hp => by rw [List.mem_singleton.mp hp]; exact ⟨upd_same, h2, h3⟩⟩
        rcases hz with rfl | ⟨o, rfl⟩
        · rfl
        · exact du.elim
      · exact ⟨_, ⟨w, z, rfl, hz⟩, fun p hp => by rw [List.mem_singleton.mp hp]; exact ⟨by rw [upd_ne e]; exact h1, h2, h3⟩⟩
/-- .. unlocked -/
theorem Sw.ulk (hd : H d = some (.frz od u)) (du : DO u) : Sw K Z ρ H d u where
  l := fun a vs q z => by rw [z] at q; have e := q.1; rw [hd] at e; cases e
  t := fun a vs q => by
    rcases q with (q | ⟨o, q⟩) | q
    · exact .inl (.inl (by rw [upd_ne (fun z => by rw [z, hd] at q; cases q)]; exact q))
    · exact .inl (.inr ⟨o, by rw [upd_ne (fun z => by rw [z, hd] at q; cases q; exact du)]; exact q⟩)
    · exact .inr q
  s := fun a vs q => by
    rcases q with ⟨o, q, n⟩ | q
    · exact .inl ⟨o, by rw [upd_ne (fun z => by rw [z, hd] at q; cases q; exact du)]; exact q, n⟩
    · exact .inr q
  o := fun t a vs q => by
    obtain ⟨G, g, q⟩ := q.ex
    cases t with
    | dk ks =>
      obtain ⟨w, z, rfl, hz⟩ := g
      obtain ⟨h1, h2, h3⟩ := q _ List.mem_cons_self
      by_cases e : a = d
      · subst e
        have e2 : HO.frz od u = z := by have := hd.symm.trans h1; exact Option.some.inj this
        subst e2
        refine ⟨[(a, u)], ⟨w, _, rfl, .inl ?_⟩, fun p hp => by rw [List.mem_singleton.mp hp]; exact ⟨upd_same, h2, h3⟩⟩
        rcases hz with hz | ⟨o, hz⟩
        · cases hz
        · cases hz; rfl
      · exact ⟨_, ⟨w, z, rfl, hz⟩, fun p hp => by rw [List.mem_singleton.mp hp]; exact ⟨by rw [upd_ne e]; exact h1, h2, h3⟩⟩
    | dt ks =>
      obtain ⟨w, z, rfl, hz⟩ := g
      obtain ⟨h1, h2, h3⟩ := q _ List.mem_cons_self
      by_cases e : a = d
      · subst e
        have e2 : HO.frz od u = z := by have := hd.symm.trans h1; exact Option.some.inj this
        subst e2
        refine ⟨[(a, u)], ⟨w, _, rfl, .inl ?_⟩, fun p hp => by rw [List.mem_singleton.mp hp]; exact ⟨upd_same, h2, h3⟩⟩
        rcases hz with hz | ⟨o, hz⟩
        · cases hz
        · cases hz; rfl
      · exact ⟨_, ⟨w, z, rfl, hz⟩, fun p hp => by rw [List.mem_singleton.mp hp]; exact ⟨by rw [upd_ne e]; exact h1, h2, h3⟩⟩
/-- behind the lock and the unlock -/
theorem Ext.unlk (e : Ext ρ (upd H d (.frz od u)) ρ' H') (hd : H d = some u) (du : DO u) : Ext ρ H ρ' (upd H' d u) where
  more := by
    obtain ⟨m, a, b⟩ := e.more
    refine ⟨m, a, fun x hx => ?_⟩
    have q := b x hx
    by_cases z : x = d
    · rw [z, upd_same] at q; cases q
    · rw [upd_ne z] at q; exact q
  keep := fun b o n q => by
    by_cases z : b = d
    · rw [z, upd_same]; rw [z, hd] at q; exact q
    · rw [upd_ne z]; exact e.keep b o n (by rw [upd_ne z]; exact q)
  there := fun b o q => by
    by_cases z : b = d
    · exact ⟨u, by rw [z]; exact upd_same⟩
    · obtain ⟨o', r⟩ := e.there b o (by rw [upd_ne z]; exact q)
      exact ⟨o', by rw [upd_ne z]; exact r⟩
  frz := fun b o x q => by
    by_cases z : b = d
    · rw [z, hd] at q; cases q; exact du.elim
    · rw [upd_ne z]; exact e.frz b o x (by rw [upd_ne z]; exact q)
theorem src_keys (a : Addr) (o : Obj) {ks : List Key} {vs : List V} (hl : ks.length = vs.length) : Src K (Itk a o (ks.zip vs)) (ks.map keyD) fun _ _ H => H a = some (.frz o (.dK (ks.zip vs))) where
  go := fun i Z ρ S H hi g k => ⟨g, by rw [List.length_zip, ← hl, Nat.min_self]; simpa using hi⟩
  stop := fun Z ρ S H g k => ⟨g, by rw [List.length_zip, ← hl, Nat.min_self]; simp⟩
  yld := fun i d Z ρ S H x H' e g k y => by
    obtain ⟨rfl, q, v, e1, rfl⟩ := y
    refine ⟨Ext.refl, k, ?_⟩
    rw [List.getElem?_map] at e
    obtain ⟨h1, h2⟩ := List.getElem?_eq_some_iff.mp e1
    rw [List.getElem_zip] at h2
    have h3 : i < ks.length := by rw [List.length_zip] at h1; omega
    rw [List.getElem?_eq_getElem h3] at e
    cases e
    cases h2
    exact is_keyD _
  keep := fun Z Y ρ S H ρ' H' g k e => e.frz _ _ _ g
  zw := fun Z ρ S H p vs o g k hp hl => by rw [upd_ne (fun z => by rw [← z] at hl; rw [g] at hl; cases hl)]; exact g
  addZ := fun Z ρ H p g hp => g
end
/-! ### a comprehension over a name: a dict's keys too -/
noncomputable def keysAt (i : Nat) (ds : En) : Option (List Key × List D) := match slot ds i with
  | some (.oth (.dk ks) es) => some (ks, es)
  | _ => none
noncomputable def mCompK (i : Nat) (g : BM) (mt : TM) (me : EM) (vs : List Nat) (ma : EM) : EM := fun ds => match keysAt i ds with
  | some (ks, _) => if ks.length ≤ 1000000 then M.cl (compM g mt me (wipeD ds vs) (ks.map keyD) >>= fun ys => pure (.lst ys)) else stuck
  | none => ma ds
section
variable {X : Cx} {W : Wsh X.K} {elt tg : Expr} {ifs : List Expr} {scope : Scope} {own : List (Str × Nat)} {pos p : Pos} {m : IM} {g : BM} {mt : TM} {me : EM} {i : Nat} {x : Str}
theorem em_compK (i : Nat) (hc : X.calm = true) (hN : X.N.Nodup) (b : Blk X elt tg ifs scope own g mt me) (hx : X.N[i]? = some x := by rfl) (hv : Vis X.env.scope x := by first | exact Or.inl rfl | exact Or.inr (Or.inl rfl) | exact Or.inr (Or.inr rfl)) (hd : (x == ("__debug__" : Str)) = false := by decide)
    (hcd : (x == ("__classdict__" : Str)) = false := by decide) (hs : ∀ y, foldedSetIterable (.Name x p) X.env y = pure y := by intro _; rfl) :
    PEm X W (.ListComp elt [⟨tg, .Name x p, ifs, 0⟩] scope pos) (mCompK i g mt me (own.map (·.2)) (mComp (mIter (mV i)) g mt me (own.map (·.2)))) := by
  have pk : PE X (.ListComp elt [⟨tg, .Name x p, ifs, 0⟩] scope pos) _ := pe_lc (g := tGw X.K (own.map fun x : Str × Nat => x.2) g) (tt := tT X.K (W0 X.K) mt) (te := tE X.K (W0 X.K) me) hc hN (pi_keys (pe_var hx hv hd hcd)) b.ok (fun s H C cl fp => b.tg s H C cl fp) (fun s H C cl fp => b.ifs s H C cl fp) (fun s H C cl fp => b.elt s H C cl fp) hs
  refine PE.imp (PE.or (em_comp (W := W) hc hN (im_any (x_v i hx hv hd hcd)) b hs) (PE.or pk (pe_lock pk))) fun σ H Q ⟨Z, ρ, S, ds, t, h⟩ => ?_
  cases ek : keysAt i ds with
  | some p =>
    obtain ⟨ks, es⟩ := p
    have h : MP ((if ks.length ≤ 1000000 then M.cl (compM g mt me (wipeD ds (own.map (·.2))) (ks.map keyD) >>= fun ys => pure (.lst ys)) else stuck) S) (Pt X.K Z ρ H Q) (W.P Z ρ H σ ds) := by
      unfold mCompK at h
      rw [ek] at h
      exact h
    have ev : ds[i]? = some (some (.oth (.dk ks) es)) := by
      unfold keysAt at ek
      rw [slot_eq] at ek
      split at ek
      · rename_i ks' es' e1
        cases ek
        cases q : ds[i]? with
        | none => rw [q] at e1; cases e1
        | some o => rw [q] at e1; exact congrArg some e1
      · cases ek
    by_cases hz : ks.length ≤ 1000000
    · rw [if_pos hz] at h
      obtain ⟨v, h1, iv⟩ := t.env.get i _ ev
      cases iv with
      | @oth a _ vs _ hq r =>
        obtain ⟨G, ⟨w, u, rfl, hu⟩, hg⟩ := hq.ex
        obtain ⟨g1, g2, g3⟩ := hg _ List.mem_cons_self
        rcases hu with rfl | ⟨od, rfl⟩
        · have g1 : H a = some (.dK (ks.zip vs)) := g1
          refine .inr (.inr ⟨a, .dK (ks.zip vs), g1, trivial, fun od => ?_⟩)
          refine ⟨_, h1, a, od, rfl, .inl ⟨_, upd_same, ?_⟩⟩
          have sw : Sw X.K Z ρ H a (.frz od (.dK (ks.zip vs))) := Sw.lk g1 trivial
          refine comp_core (E := No) (Q := fun v H' => H' a = some (.frz od (.dK (ks.zip vs))) ∧ Q v (upd H' a (.dK (ks.zip vs)))) fin_lst (Z := Z) (ρ1 := ρ) (S1 := S) ⟨t.ok.sw sw g2 g3, t.env.sw sw⟩ (src_keys a od w) upd_same (by rw [List.length_map]; exact hz) ((MP.bind (MP.cl h (E' := No))).imp (fun ys S' z => z.imp (fun d S2 q => ?_) fun _ _ _ _ => trivial) fun _ _ _ z => z)
          intro ρ' H' v' e' k' i'
          have hn : a ∉ ρ' := e'.old upd_same g2
          have hh : H' a = some (.frz od (.dK (ks.zip vs))) := e'.frz _ _ _ upd_same
          have sw' : Sw X.K Z ρ' H' a (.dK (ks.zip vs)) := Sw.ulk hh trivial
          exact ⟨hh, q ρ' _ v' (e'.unlk g1 trivial) (k'.sw sw' hn g3) (i'.sw sw')⟩
        · refine .inr (.inl ⟨_, h1, a, od, rfl, .inl ⟨_, g1, ?_⟩⟩)
          exact comp_core (E := No) (Q := Q) fin_lst t (src_keys a od w) g1 (by rw [List.length_map]; exact hz) ((MP.bind (MP.cl h (E' := No))).imp (fun ys S' z => z.imp (fun _ _ q => q) fun _ _ _ _ => trivial) fun _ _ _ z => z)
    · rw [if_neg hz] at h; exact h.elim
  | none =>
    refine .inl ⟨Z, ρ, S, ds, t, ?_⟩
    unfold mCompK at h
    rw [ek] at h
    exact h
end
end Pv
end

/-! Pv31: stars in displays and calls, max of alike data. -/
namespace Pv
open PySem PySem.Spec PyProof.Rows L2 PySem.W
/-! ### *e -/
def seqOf (S : Sto) (x : D) : Option (List D) := match vw S x with
  | .lst xs => some xs
  | .tup xs => some xs
  | _ => none
def mStarA (ma : EM) (ms : AM) : AM := fun ds => ma ds >>= fun x => M.lift (fun S => (seqOf S x).map fun xs => (xs, S)) >>= fun xs => ms ds >>= fun ys => pure (xs ++ ys)
section
variable {X : Cx} {W : Wsh X.K} {e : Expr} {es : List Expr} {ma : EM} {ms : AM} {p pos : Pos} {k j : Nat} {x : Str} {m : DM}
theorem am_star (he : PEm X W e ma) (hr : PAm X W es ms) (hs : starEach (.Starred e p :: es) X.env = (true, eval e X.env) :: starEach es X.env := by rfl) : PAm X W (.Starred e p :: es) (mStarA ma ms) :=
  PA.imp (StX.pa_star he hr hs) fun σ H Q ⟨Z, ρ, S, ds, t, h⟩ => tE_bind t h fun d S1 ρ1 H1 v e1 t1 i q => by
    obtain ⟨xs, S2, e2, q2⟩ := MP.lift (MP.bind q)
    obtain ⟨ys, e3, e4⟩ : ∃ ys, seqOf S1 d = some ys ∧ (ys, S1) = (xs, S2) := by
      cases c : seqOf S1 d with
      | none => rw [c] at e2; cases e2
      | some ys => rw [c] at e2; exact ⟨ys, rfl, Option.some.inj e2⟩
    cases e4
    have fin : ∀ (a : Addr) (us : List V), IsAll X.K Z ρ1 H1 us xs → tA X.K W ms σ H1 fun zs H2 => Q (us ++ zs) H2 := fun a us iu => tA_bind t1 q2 fun zs S3 ρ3 H3 ws e5 t3 i3 q3 =>
      (MP.pure q3 : PtA _ _ _ _ _ _ _) ρ3 H3 _ (e1.trans e5) t3.ok ((iu.mono t1.ok e5).append i3)
    unfold seqOf at e3
    split at e3
    · rename_i xs' ev
      cases e3
      obtain ⟨a, us, rfl, hl, r⟩ := vw_lst t1.ok i ev
      exact ⟨a, us, rfl, .inr hl, fin a us r⟩
    · rename_i xs' ev
      cases e3
      obtain ⟨a, us, rfl, hl, r⟩ := vw_tup i ev
      exact ⟨a, us, rfl, .inl hl, fin a us r⟩
    · cases e3
end
/-! ### max of alike data -/
def rMaxD (K : PySem.W.Frag) : List V → Hp → VK → Prop := fun vs H Q => ∃ (a : Addr) (xs : List V) (p : PyData) (ps : List PyData), vs = [.ref a] ∧ SqL K H a xs ∧ DpAll K H xs (p :: ps) ∧ AlikeAll (p :: ps) ∧ PyData.depthAll (p :: ps) ≤ 60 ∧
  ∀ (i : Nat) (v : V), xs[i]? = some v → (p :: ps)[i]? = some (maxD p ps) → Q v H
theorem cr_maxD {X : Cx} (hc : X.calm = true) (hu : X.A.units + 64 < cLine) : CallR X (.builtin "max") (rMaxD X.K) := by
  intro pins s σ H vs us Q I r h
  obtain ⟨a, xs, p, ps, rfl, hs, hd, ha, hdep, q⟩ := h
  obtain ⟨its, rv, hl, _⟩ := I.list hs
  rw [Vals.ref1 r]
  obtain ⟨as, hr⟩ := Dp.readsAll I (p :: ps) _ its hd rv
  refine max_list_data (I.ok.hd hc) hl.isList hr ha (by omega) fun i u h' tk bs hi hm hk => ?_
  have hi' : its[i]? = some u := by simpa using hi
  obtain ⟨v, hv, rvu⟩ : ∃ v, xs[i]? = some v ∧ RelV v u := by
    have hl := rv.length
    have hlt : i < xs.length := by rw [hl]; exact (List.getElem?_eq_some_iff.mp hi').1
    obtain ⟨u', hu', ru⟩ := rv.get (List.getElem?_eq_getElem hlt)
    rw [hi'] at hu'
    cases hu'
    exact ⟨_, List.getElem?_eq_getElem hlt, ru⟩
  obtain ⟨p', hp', dv⟩ := dp_at hd hv
  obtain ⟨cs, rd⟩ := Dp.reads I p' v u dv rvu
  have e := (Reads.unique (reads_keeps hk rd) _ _ hm).1
  exact ⟨v, H, I.kept hk, rvu, q i v hv (by rw [hp', e])⟩
def maxDD (d : D) (ds : List D) : D := ds.foldl (fun a y => if dlt a y then y else a) d
theorem maxDD_py : ∀ {ds : List D} {ps : List PyData} {d : D} {p : PyData}, toPy d = some p → toPyAll ds = some ps → toPy (maxDD d ds) = some (maxD p ps)
  | [], ps, d, p, h, h' => by cases h'; exact h
  | x :: xs, ps, d, p, h, h' => by
    simp only [toPyAll] at h'
    split at h'
    · rename_i q qs e1 e2
      cases h'
      show toPy (maxDD (if dlt d x then x else d) xs) = some (maxD (if dataLt p q then q else p) qs)
      have e : dlt d x = dataLt p q := by unfold dlt; rw [e1, h]
      rw [e]
      refine maxDD_py ?_ e2
      split
      · exact e1
      · exact h
    · cases h'
def fMaxT : FA := fun xs S => match xs with
  | [x] => match vw S x with
    | .lst (d :: ds) => match toPyAll (d :: ds) with
      | some ps => if (alkAll ps && decide (PyData.depthAll ps ≤ 60)) = true then some (maxDD d ds, S) else none
      | none => none
    | _ => none
  | _ => none
def rMaxB (K : PySem.W.Frag) : List V → Hp → VK → Prop := fun xs H Q => rMaxA K xs H Q ∨ rMaxD K xs H Q
/-- ints as before, else alike data -/
def fMaxB : FA := fun xs S => match fMax xs S with
  | some r => some r
  | none => fMaxT xs S
theorem cd_maxB (K : PySem.W.Frag) : CallD K (rMaxB K) fMaxB := by
  intro Z ρ S S' H xs ds d Q k i h q
  unfold fMaxB at h
  split at h
  · rename_i r e
    cases h
    exact .inl (cd_max K Z ρ S S' H xs ds d Q k i e q)
  · unfold fMaxT at h
    split at h
    · rename_i x
      split at h
      · rename_i y ys e5
        split at h
        · rename_i ps e6
          obtain ⟨hc, e7⟩ := of_if h
          cases e7
          rw [Bool.and_eq_true, decide_eq_true_eq] at hc
          obtain ⟨v, rfl, iv⟩ := is1 i
          obtain ⟨a, vs, rfl, hl, r⟩ := vw_lst k iv e5
          obtain ⟨p, qs, rfl, h1, h2⟩ := toPyAll_cons e6
          refine .inr ⟨a, vs, p, qs, rfl, hl, r.dp e6, alk_of hc.1, hc.2, fun j u hu hp => ?_⟩
          obtain ⟨du, hdu, iu⟩ := r.getV hu
          have e8 := toPyAll_get e6 hdu hp
          have e9 := toPy_inj e8 (maxDD_py h1 h2)
          rw [← e9] at q
          exact q.val k iu
        · cases h
      · cases h
    · cases h
theorem b_maxB {X : Cx} {j : Nat} (ft : Fit X j) (hm : X.mg "max" = none) (hc : X.calm = true := by rfl) : Blt X "max" fMaxB := ⟨hm, by decide, by decide, _, cd_maxB _, .inl ⟨_, rfl, CallR.orB (cr_maxA hc) (cr_maxD hc ft.room.units)⟩⟩
end Pv

/-! Pv32: enumerate over tuples, targets within targets. -/
namespace Pv
open PySem PySem.Spec PyProof.Rows L2
/-! ### enumerate(tuple) -/
set_option maxHeartbeats 8000000 in
theorem meets_enumT {v : Value} {o : Obj} {H : Heap → Prop} (B : Begins v o H) :
    Meets (Builtin.«enumerate.__new__» ⟨[.type "enumerate", v], []⟩) (fun _ R s => H s.heap ∧
      R (.ok (.ret (.ref (s.heap.push o).objs.size))) { s with heap := (s.heap.push o).push { cls := .type "enumerate", data := .fields #[.none, .bool false, .ref s.heap.objs.size, rawInt 0, .none, .none] } }) :=
  .of_wp fun prog w A R s h => by
    obtain ⟨hp, g, d, tk, os⟩ := s
    obtain ⟨h1, h⟩ := h
    have hsub := sub_enumerate
    have q1 : ∀ {A' : Around} {E : Value → Shared → Prop} {Q : Value → Shared → Prop}, Q (.ref hp.objs.size) ⟨hp.push o, g, d, tk, os⟩ → wpAny (model prog w) A' (pyIter v) Q E ⟨hp, g, d, tk, os⟩ :=
      fun q => B.iter prog w _ _ ⟨hp, g, d, tk, os⟩ _ h1 q
    wp_walk using q1
    refine wpAny_stack_any fun st => wpAny_pure ?_
    split
    · rename_i c _ _ _ _ _
      cases (c == Value.type "enumerate") <;> (wp_walk using q1; exact ⟨_, rfl, h⟩)
    · wp_walk using q1
      exact ⟨_, rfl, h⟩
section
variable {prog : Program} {w : World} {A : Around} {E : Value → Shared → Prop} {s : Shared}
theorem call_enumT {l : Addr} {items : Array Value} {Q : Value → Shared → Prop} (hL : s.heap.IsTuple l items)
    (h : ∀ h', IsEnum h' (s.heap.objs.size + 1) s.heap.objs.size 0 .none → h'.IsTupleIter s.heap.objs.size l 0 → h'.objs.size = s.heap.objs.size + 2 →
      (∀ b o, s.heap.get? b = some o → h'.get? b = some o) → Q (.ref (s.heap.objs.size + 1)) { s with heap := h' }) :
    wpAny (model prog w) A (call (.type "enumerate") [.ref l]) Q E s := by
  refine callType_new F.called_enumerate (by decide) (F.typeCall_enumerate_1 _) (F.newCall_enumerate_1 _) (fun obj => F.args_object_init_2 obj _) F.entry_enumerate_new
    (meets_enumT (begins_tuple l items)) ⟨hL, ?_⟩
  have hz : (s.heap.push { cls := .type "tuple_iterator", data := .fields #[.ref l, .int 0 0] }).objs.size = s.heap.objs.size + 1 := Heap.size_push ..
  show _ ∧ _
  rw [hz]
  have he : IsEnum ((s.heap.push { cls := .type "tuple_iterator", data := .fields #[.ref l, .int 0 0] }).push { cls := .type "enumerate", data := .fields #[.none, .bool false, .ref s.heap.objs.size, rawInt 0, .none, .none] }) (s.heap.objs.size + 1) s.heap.objs.size 0 .none := by
    have := Heap.get?_push_size (s.heap.push { cls := .type "tuple_iterator", data := .fields #[.ref l, .int 0 0] }) (o := { cls := .type "enumerate", data := .fields #[.none, .bool false, .ref s.heap.objs.size, rawInt 0, .none, .none] }) rfl
    rw [hz] at this; exact this
  refine ⟨⟨_, he, rfl⟩, h _ he ⟨_, Heap.get?_push_of_some _ (Heap.get?_push_size _ rfl), rfl, rfl⟩ (by rw [Heap.size_push, hz]) fun b o x => Heap.get?_push_of_some _ (Heap.get?_push_of_some _ x)⟩
theorem enumT_end {e it l : Addr} {i : Nat} {items : Array Value} {old : Value} {Q : Option Value → Shared → Prop} (hh : A.handled = none)
    (he : IsEnum s.heap e it i old) (hit : s.heap.IsTupleIter it l i) (hl : s.heap.IsTuple l items) (hx : items[i]? = none)
    (hQ : ∀ h', Heap.ExtBut it s.heap h' → Q none { s with heap := h' }) : wpAny (model prog w) A (pyNext (.ref e)) Q E s := by
  have hT : s.TypeIs (.ref e) "enumerate" := ⟨_, he, rfl⟩
  unfold pyNext
  refine wpAny_bind (wpAny_attempt (wpAny_callSpecial?_slot (name := Str.ofString "__next__") hT F.slot_enumerate_next
    (wpAny_call_entry F.slot_enumerate_next hT F.entry_enumerate_next ?_ (F.args_enumerate_next_1 _))))
  show wpAny _ _ (field (.ref e) 2 >>= _) _ _ _
  refine wpAny_bind (wpAny_field he rfl (x := .ref it) rfl ?_)
  refine wpAny_bind (wpAny_nextOf_tuple_end hh hit hl hx fun h' x he' hx' => ?_)
  obtain ⟨o, ho, hc⟩ := hx'
  exact wpAny_bind (wpAny_isInstance (T := "StopIteration") (b := true) ⟨o, ho, hc⟩ isSubtype_stop (wpAny_pure (hQ _ he')))
end
def IteT (K : PySem.W.Frag) (a : Addr) : It :=
  ⟨fun i H => ∃ (xs : List V) (x : V), SqT K H a xs ∧ xs[i]? = some x, fun i H v H' => ∃ T x, v = .ref T ∧ H T = none ∧ H' = upd H T (.tup [.int (i : Nat), x]) ∧ ∀ xs, SqT K H a xs → xs[i]? = some x, fun i H => ∃ xs : List V, SqT K H a xs ∧ xs.length ≤ i⟩
theorem turn_enumT {P : Program} {w : World} {K : PySem.W.Frag} {elts : List Expr} {kk : Nat} {tpos : Pos} (a e it : Addr) :
    L2.Turn P w K (.Tuple elts kk tpos) (IteT K a) [e, it] e (fun i h => (∃ old, IsEnum h e it ((i : Nat) : Int) old) ∧ h.IsTupleIter it a i ∧ e ≠ it ∧ a ≠ it ∧ a ≠ e) where
  mem := by simp
  obj := fun i h st b hb => by
    obtain ⟨⟨old, he⟩, ⟨o, ho, hc, hd⟩, _⟩ := st
    have e' : b = e ∨ b = it := by simpa using hb
    rcases e' with z | z
    · rw [z]; exact ⟨_, he, fun v q => nomatch q⟩
    · rw [z]; exact ⟨o, ho, fun v q => by rw [hd] at q; cases q⟩
  keep := fun i h h' st k => let ⟨⟨old, he⟩, hi, hne⟩ := st; ⟨⟨old, k e (by simp) _ he⟩, hi.at fun o q => k it (by simp) o q, hne⟩
  item := by
    intro X hP hw hK hc i pins s σ H E I hf st hg
    subst hP hw hK
    obtain ⟨⟨old, he⟩, hit, hne, hai, hae⟩ := st
    obtain ⟨xs, x, hq, hx⟩ := hg
    obtain ⟨its, rv, p, hz⟩ := I.tuple hq
    have p : s.heap.IsTuple a its.toArray := p
    obtain ⟨u, hu, ru⟩ := rv.get hx
    have hel : e < s.heap.objs.size := Heap.lt_size he
    have hil : it < s.heap.objs.size := by obtain ⟨_, q, _⟩ := hit; exact Heap.lt_size q
    have hlt : i < its.toArray.size := by simpa using (List.getElem?_eq_some_iff.mp hu).1
    refine wpAny_pyNext_enum_itemD (Draws.tuple (by exact I.ok.hd hc) it a hai its.toArray) he ⟨hit, p⟩ hlt hne (by simp; exact ⟨hne, Ne.symm hae⟩) fun x' h' tk hP ho st' hT hsz hk => ?_
    have ex : x' = u := by
      have z : its.toArray[i]? = some x' := hP
      have z2 : its[i]? = some x' := by simpa using z
      rw [hu] at z2
      exact (Option.some.inj z2).symm
    subst ex
    refine ⟨_, rfl, wpAny_letOwnedTupleGo_enum (s := { s with heap := h', toks := tk + 1 }) ho fun h'' he' sb => ?_⟩
    have hT2 : h''.get? s.heap.objs.size = some { cls := .type "tuple", data := .seq #[.int i tk, x'] } := (sb.2 _ (Nat.ne_of_gt hel)).trans hT
    have new : ObjOk X.prog X.w (upd H s.heap.objs.size (.tup [.int (i : Nat), x])) h'' s.heap.objs.size (.tup [.int (i : Nat), x]) :=
      ⟨by show 2 ≤ sizeLine; decide, [.int i tk, x'], .cons ⟨_, rfl⟩ (.cons ru .nil), ⟨_, hT2, rfl, _, rfl⟩⟩
    have I1 : Inv X pins σ (upd H s.heap.objs.size (.tup [.int (i : Nat), x])) { s with heap := h'', toks := tk + 1 } :=
      I.turnedNew (ch := [e, it]) (fun b ob hb q => (sb.2 b (fun z => hb (by simp [z]))).trans (hk b ob (fun z => hb (by simp [z])) (fun z => hb (by simp [z])) q)) hf (Nat.le_refl _) new
    refine ⟨.ref s.heap.objs.size, _, I1, rfl, ⟨_, x, rfl, I.hok.fresh (Nat.le_refl _), rfl, fun ys hy => by rw [I.tuple_inj hy hq]; exact hx⟩, ⟨⟨x', ?_⟩, st'.1.at fun o q => (sb.2 it (Ne.symm hne)).trans q, hne, hai, hae⟩, fun b hb => ?_⟩
    · have e1 : ((i + 1 : Nat) : Int) = (i : Int) + 1 := by omega
      rw [e1]; exact he'
    · have hb' : b < s.heap.objs.size := by
        have e' : b = e ∨ b = it := by simpa using hb
        rcases e' with z | z
        · rw [z]; exact hel
        · rw [z]; exact hil
      rw [upd_ne (Nat.ne_of_lt hb')]
      exact (hf b hb).1
  done := by
    intro X hP hw hK hc i pins s σ H E I hf st hg
    subst hP hw hK
    obtain ⟨⟨old, he⟩, hit, hne, hai, hae⟩ := st
    obtain ⟨xs, hq, hx⟩ := hg
    obtain ⟨its, rv, p, hz⟩ := I.tuple hq
    have p : s.heap.IsTuple a its.toArray := p
    obtain ⟨f0, f1, f2, f3, f4, f5⟩ := hf it (by simp)
    have hl := rv.length
    exact enumT_end (I.ok.hd hc) he hit p (by simp; omega) fun h' eb => ⟨rfl, I.turned (t' := s.toks) (fun b o hb q => eb b o hb q) f0 f1 f3 f4 f5⟩
  self := fun A i s Q E st h => let ⟨⟨_, he⟩, _⟩ := st; wpAny_pyIter_enum he h
def iEnumT (K : PySem.W.Frag) (ta : TA) : TI := fun σ H R => ta σ H fun vs H1 => ∃ a xs, vs = [.ref a] ∧ SqT K H1 a xs ∧ R (IteT K a) H1
theorem pi_enumT {X : Cx} {e : Expr} {ta : TA} {p pos tpos : Pos} {elts : List Expr} {kk : Nat} (hg : Gl X "enumerate") (hm : X.mg "enumerate" = none) (ha : PA X [e] ta) (hs : starEach [e] X.env = [(false, eval e X.env)] := by rfl) :
    PI X (.Tuple elts kk tpos) (.Call (.Name "enumerate" p) [e] [] pos) (iEnumT X.K ta) := by
  refine ⟨fun pins s σ H R I h => ?_⟩
  refine Call_ (ld_blt I hg hm boot_enumerate (PyProof.Rows.callWith_type1 (thn (ha.run pos pins s σ H _ I h) fun us s1 ⟨vs, H1, I1, r1, q1⟩ => ?_) hs rfl))
  obtain ⟨a, xs, ex, hq, q⟩ := q1
  subst ex
  cases r1 with
  | cons r rr =>
    cases rr
    cases r
    obtain ⟨its, rv, p', hz⟩ := I1.tuple hq
    have p' : s1.heap.IsTuple a its.toArray := p'
    have hlt : a < s1.heap.objs.size := by obtain ⟨_, q, _⟩ := p'; exact Heap.lt_size q
    refine call_enumT p' fun h' he hit hsz hk => wpAny_pyIter_enum he ?_
    have I2 : Inv X pins σ H1 { s1 with heap := h' } := I1.kept (t' := s1.toks) hk
    refine ⟨s1.heap.objs.size + 1, [s1.heap.objs.size + 1, s1.heap.objs.size], _, _, H1, rfl, I2, turn_enumT a (s1.heap.objs.size + 1) s1.heap.objs.size, ⟨⟨.none, he⟩, hit, Nat.succ_ne_self _, Nat.ne_of_lt hlt, Nat.ne_of_lt (Nat.lt_succ_of_lt hlt)⟩, fun b hb => ?_, q⟩
    have e' : b = s1.heap.objs.size + 1 ∨ b = s1.heap.objs.size := by simpa using hb
    have hle : s1.heap.objs.size ≤ b := by
      rcases e' with z | z
      · rw [z]; exact Nat.le_add_right _ _
      · rw [z]; exact Nat.le_refl _
    exact I1.fpOk hle (I1.hok.fresh hle)
theorem src_enumT {K : PySem.W.Frag} (a : Addr) (xs : List D) : Src K (IteT K a) (enumD 0 xs) fun Z ρ H => Is K Z ρ H (.ref a) (.tup xs) where
  go := fun i Z ρ S H hi g k => by
    rw [enumD_length] at hi
    cases g with
    | tup h r =>
      obtain ⟨v, e, _⟩ := r.get (List.getElem?_eq_getElem hi)
      exact ⟨_, v, h, e⟩
  stop := fun Z ρ S H g k => by
    cases g with
    | tup h r => exact ⟨_, h, by rw [enumD_length, r.length]; exact Nat.le_refl _⟩
  yld := fun i d Z ρ S H x H' e g k y => by
    obtain ⟨T, x1, rfl, hT, rfl, q1⟩ := y
    rw [enumD_get, Nat.zero_add] at e
    cases g with
    | tup h r =>
      obtain ⟨u, e1, rfl⟩ := mapS e
      obtain ⟨v, e3, iv⟩ := r.get e1
      have z1 := q1 _ h
      rw [e3] at z1
      cases z1
      exact ⟨ext_new hT, k.new hT, new_tup k hT (.cons (.int _) (.cons iv .nil))⟩
  keep := fun Z Y ρ S H ρ' H' g k e => g.monoZ k e
  zw := fun Z ρ S H p vs o g k hp hl => g.zw k hp hl trivial
  addZ := fun Z ρ H p g hp => g.addZ hp
section
variable {X : Cx} {W : Wsh X.K} {e : Expr} {ms : AM} {p pos tpos : Pos} {elts : List Expr} {kk : Nat}
def enumOf : List D → M (List D)
  | [.lst us] => pure (enumD 0 us)
  | [.tup us] => pure (enumD 0 us)
  | _ => stuck
def mEnumA (ms : AM) : IM := fun ds => ms ds >>= enumOf
theorem im_enumA (hg : Gl X "enumerate") (hm : X.mg "enumerate" = none) (ha : PAm X W [e] ms) (hs : starEach [e] X.env = [(false, eval e X.env)] := by rfl) :
    PIm X W (.Tuple elts kk tpos) (.Call (.Name "enumerate" p) [e] [] pos) (mEnumA ms) :=
  PI.imp (PI.or (pi_enum hg hm ha hs) (pi_enumT hg hm ha hs)) fun σ H R ⟨Z, ρ, S, ds, t, h⟩ => by
    have hb := MP.bind h
    cases q : ms ds S with
    | no => rw [q] at hb; exact hb.elim
    | exc c v S1 =>
      rw [q] at hb
      exact .inl ⟨Z, ρ, S, ds, t, by rw [q]; exact hb⟩
    | ok xs S1 =>
      rw [q] at hb
      have hb' : MP (enumOf xs S1) (fun items S1 => ∀ ρ' H' J G, Ext ρ H ρ' H' → Ok X.K Z ρ' S1 H' → Src X.K J items G → G Z ρ' H' → R J H') (W.P Z ρ H σ ds) := hb
      unfold enumOf at hb'
      split at hb'
      · refine .inl ⟨Z, ρ, S, ds, t, ?_⟩
        rw [q]
        intro ρ1 H1 vs e1 k1 i
        obtain ⟨v, rfl, iv⟩ := is1 i
        cases iv with
        | @lst a us _ h1 r1 => exact ⟨a, us, rfl, h1.seq, (MP.pure hb') ρ1 H1 _ _ e1 k1 (src_enum a _) (.lst h1 r1)⟩
      · refine .inr ⟨Z, ρ, S, ds, t, ?_⟩
        rw [q]
        intro ρ1 H1 vs e1 k1 i
        obtain ⟨v, rfl, iv⟩ := is1 i
        cases iv with
        | @tup a us _ h1 r1 => exact ⟨a, us, rfl, h1, (MP.pure hb') ρ1 H1 _ _ e1 k1 (src_enumT a _) (.tup h1 r1)⟩
      · exact hb'.elim
end
/-! ### targets within targets -/
def goG : List GM → List D → En → M En
  | g :: gs, x :: xs, ds => M.cl (g x ds) >>= fun ds1 => goG gs xs ds1
  | [], [], ds => pure ds
  | _, _, _ => stuck
def tGsN (K : PySem.W.Frag) (gs : List GM) : TGs := fun vs σ H Q => ∃ Z ρ S ds xs, At K Z ρ S H σ ds ∧ IsAll K Z ρ H vs xs ∧ MP (goG gs xs ds S) (fun ds1 S1 => ∀ ρ' H' σ', Ext ρ H ρ' H' → At K Z ρ' S1 H' σ' ds1 → Q σ' H') No
def PGsN (X : Cx) (ts : List Expr) (gs : List GM) : Prop := PGs X ts (tGsN X.K gs)
section
variable {X : Cx} {W : Wsh X.K} {e : Expr} {es : List Expr} {g : GM} {gs : List GM} {pos : Pos}
theorem gN_nil : PGsN X [] [] := PGs.imp pgs_nil fun vs σ H Q ⟨Z, ρ, S, ds, xs, t, i, h⟩ => by
  cases i with
  | nil => exact ⟨rfl, (MP.pure h) ρ H σ Ext.refl t⟩
  | cons _ _ => exact h.elim
theorem gN_cons (h1 : PGm X (W0 X.K) e g) (h2 : PGsN X es gs) (hs : (assignEach (e :: es) X.env).map (·.2) = assign e X.env :: (assignEach es X.env).map (·.2) := by rfl) : PGsN X (e :: es) (g :: gs) :=
  PGs.imp (pgs_cons h1 h2 hs) fun vs σ H Q ⟨Z, ρ, S, ds, xs, t, i, h⟩ => by
    cases i with
    | nil => exact h.elim
    | @cons v vs x xs iv r =>
      refine ⟨v, vs, rfl, Z, ρ, S, ds, x, t, iv, (MP.cl (MP.bind (m := M.cl (g x ds)) h)).imp (fun ds1 S1 q => ?_) fun _ _ _ z => z⟩
      exact fun ρ1 H1 σ1 e1 t1 => ⟨Z, ρ1, S1, ds1, xs, t1, r.mono t.ok e1, q.imp (fun ds2 S2 z ρ2 H2 σ2 e2 t2 => z ρ2 H2 σ2 (e1.trans e2) t2) fun _ _ _ z => z⟩
def mTupN (gs : List GM) : GM := fun d ds => match d with
  | .tup xs => if xs.length = gs.length then M.cl (goG gs xs ds) else stuck
  | _ => stuck
theorem gm_tupN {k : Nat} (hc : X.calm = true) (h : PGsN X es gs) (hn : (assignEach es X.env).length = gs.length := by rfl) (hst : (assignEach es X.env).findIdx? (·.1) = none := by rfl) : PGm X W (.Tuple es k pos) (mTupN gs) :=
  PG.imp (pg_tup hc h hn hst) fun v σ H Q ⟨Z, ρ, S, ds, d, t, ia, q⟩ => by
    cases ia with
    | @tup a vs xs hq r =>
      unfold mTupN at q
      simp only at q
      by_cases hl : xs.length = gs.length
      · rw [if_pos hl] at q
        exact ⟨_, vs, rfl, hq, by rw [r.length]; exact hl, Z, ρ, S, ds, xs, t, r, MP.cl q⟩
      · rw [if_neg hl] at q; exact q.elim
    | _ => exact q.elim
/-! .. of a comprehension's clause -/
def goB : List BM → List D → En → Option En
  | g :: gs, x :: xs, ds => (g x ds).bind fun ds1 => goB gs xs ds1
  | [], [], ds => some ds
  | _, _, _ => none
def tGsB (K : PySem.W.Frag) (vs : List Nat) (gs : List BM) : TGs := fun us σ H Q => ∃ Z ρ S ds xs ds1, At K Z ρ S H σ ds ∧ IsAll K Z ρ H us xs ∧ goB gs xs ds = some ds1 ∧ ∀ σ', wipe σ' vs = wipe σ vs → At K Z ρ S H σ' ds1 → Q σ' H
def PGsB (X : Cx) (ts : List Expr) (vs : List Nat) (gs : List BM) : Prop := PGs X ts (tGsB X.K vs gs)
theorem gB_nil {vs : List Nat} : PGsB X [] vs [] := PGs.imp pgs_nil fun us σ H Q ⟨Z, ρ, S, ds, xs, ds1, t, i, e, h⟩ => by
  cases i with
  | nil => cases e; exact ⟨rfl, h σ rfl t⟩
  | cons _ _ => cases e
theorem gB_cons {vs : List Nat} {g : BM} {gs : List BM} (h1 : PGw X e vs g) (h2 : PGsB X es vs gs) (hs : (assignEach (e :: es) X.env).map (·.2) = assign e X.env :: (assignEach es X.env).map (·.2) := by rfl) : PGsB X (e :: es) vs (g :: gs) :=
  PGs.imp (pgs_cons h1 h2 hs) fun us σ H Q ⟨Z, ρ, S, ds, xs, ds1, t, i, e, h⟩ => by
    cases i with
    | nil => cases e
    | @cons v us x xs iv r =>
      obtain ⟨ds2, e1, e2⟩ := Option.bind_eq_some_iff.mp (show (g x ds).bind (fun ds1 => goB gs xs ds1) = some ds1 from e)
      exact ⟨v, us, rfl, Z, ρ, S, ds, ds2, x, t, iv, e1, fun σ' w t' => ⟨Z, ρ, S, ds2, xs, ds1, t', r, e2, fun σ2 w2 t2 => h σ2 (w2.trans w) t2⟩⟩
def bTupN (gs : List BM) : BM := fun d ds => match d with
  | .tup xs => goB gs xs ds
  | _ => none
theorem goB_len : ∀ {gs : List BM} {xs : List D} {ds ds1 : En}, goB gs xs ds = some ds1 → xs.length = gs.length
  | [], [], _, _, _ => rfl
  | g :: gs, x :: xs, ds, ds1, e => by
    obtain ⟨ds2, e1, e2⟩ := Option.bind_eq_some_iff.mp (show (g x ds).bind (fun ds1 => goB gs xs ds1) = some ds1 from e)
    exact congrArg (· + 1) (goB_len e2)
  | [], _ :: _, _, _, e => by cases e
  | _ :: _, [], _, _, e => by cases e
theorem gw_tupN {vs : List Nat} {gs : List BM} {k : Nat} (hc : X.calm = true) (h : PGsB X es vs gs) (hn : (assignEach es X.env).length = gs.length := by rfl) (hst : (assignEach es X.env).findIdx? (·.1) = none := by rfl) : PGw X (.Tuple es k pos) vs (bTupN gs) :=
  PG.imp (pg_tup hc h hn hst) fun v σ H Q ⟨Z, ρ, S, ds, ds1, d, t, ia, e, q⟩ => by
    cases ia with
    | @tup a us xs hq r => exact ⟨_, us, rfl, hq, by rw [r.length]; exact goB_len e, Z, ρ, S, ds, xs, ds1, t, r, e, q⟩
    | _ => cases e
end
end Pv

/-! Pv33: calls that know no cell; lists that change, out of + . -/
namespace Pv
open PySem PySem.Spec PyProof.Rows L2
/-! ### what holds no cell -/
mutual
def nc : D → Bool
  | .tup xs => ncL xs
  | .lst xs => ncL xs
  | .cell _ => false
  | .scr _ => false
  | .oth _ xs => ncL xs
  | _ => true
def ncL : List D → Bool
  | [] => true
  | x :: xs => nc x && ncL xs
end
section
variable {K : PySem.W.Frag} {Z ρ ρ' : List Addr} {S : Sto} {H H' : Hp} {v : V} {d : D} {vs : List V} {ds : List D}
theorem Ok.shut (k : Ok K Z ρ S H) : Ok K (ρ ++ Z) [] [] H where
  len := rfl
  nd := List.nodup_nil
  zd := fun a h => by cases h
  zt := fun a h => (List.mem_append.mp h).elim (fun h => k.ho h) (k.zt a)
  cell := fun i a c h => by simp at h
mutual
theorem Is.shut : ∀ {v : V} {d : D}, Is K Z ρ H v d → nc d = true → Is K (ρ ++ Z) [] H v d
  | _, _, .non, _ => .non
  | _, _, .bl b, _ => .bl b
  | _, _, .int i, _ => .int i
  | _, _, .str x, _ => .str x
  | _, _, .tup h r, c => .tup h (IsAll.shut r c)
  | _, _, .lst h r, c => .lst ⟨h.1, by simp, fun z => (List.mem_append.mp z).elim h.2.1 h.2.2⟩ (IsAll.shut r c)
  | _, _, .cell h, c => by cases c
  | _, _, .ty n, _ => .ty n
  | _, _, .scr h r, c => by cases c
  | _, _, .oth h r, c => .oth (h.imp fun b o h1 h2 h3 => ⟨h1, by simp, fun z => (List.mem_append.mp z).elim h2 h3⟩) (IsAll.shut r c)
theorem IsAll.shut : ∀ {vs : List V} {ds : List D}, IsAll K Z ρ H vs ds → ncL ds = true → IsAll K (ρ ++ Z) [] H vs ds
  | _, _, .nil, _ => .nil
  | _, _, .cons h r, c => by
    have c' := (Bool.and_eq_true _ _).mp (show (nc _ && ncL _) = true from c)
    exact .cons (Is.shut h c'.1) (IsAll.shut r c'.2)
end
mutual
theorem Is.open : ∀ {v : V} {d : D}, Is K (ρ ++ Z) ρ' H v d → nc d = true → Is K Z ρ H v d
  | _, _, .non, _ => .non
  | _, _, .bl b, _ => .bl b
  | _, _, .int i, _ => .int i
  | _, _, .str x, _ => .str x
  | _, _, .tup h r, c => .tup h (IsAll.open r c)
  | _, _, .lst h r, c => .lst ⟨h.1, fun z => h.2.2 (List.mem_append_left _ z), fun z => h.2.2 (List.mem_append_right _ z)⟩ (IsAll.open r c)
  | _, _, .cell h, c => by cases c
  | _, _, .ty n, _ => .ty n
  | _, _, .scr h r, c => by cases c
  | _, _, .oth h r, c => .oth (h.imp fun b o h1 h2 h3 => ⟨h1, fun z => h3 (List.mem_append_left _ z), fun z => h3 (List.mem_append_right _ z)⟩) (IsAll.open r c)
theorem IsAll.open : ∀ {vs : List V} {ds : List D}, IsAll K (ρ ++ Z) ρ' H vs ds → ncL ds = true → IsAll K Z ρ H vs ds
  | _, _, .nil, _ => .nil
  | _, _, .cons h r, c => by
    have c' := (Bool.and_eq_true _ _).mp (show (nc _ && ncL _) = true from c)
    exact .cons (Is.open h c'.1) (IsAll.open r c'.2)
end
theorem Ext.back (e : Ext [] H ρ' H') : Ext ρ H ρ H' := ⟨⟨[], by simp, fun _ h => by cases h⟩, fun b o _ q => e.keep b o (by simp) q, e.there, e.frz⟩
theorem Ok.back (k : Ok K Z ρ S H) (e : Ext [] H ρ' H') : Ok K Z ρ S H' :=
  k.step e.back (fun a h => by obtain ⟨o, q, _⟩ := k.ho h; rw [q]; exact e.keep a o (by simp) q) fun a h => by obtain ⟨o, q, _⟩ := k.zt a h; rw [q]; exact e.keep a o (by simp) q
end
def shutR (S : Sto) : R D → R D
  | .ok d _ => if nc d = true then .ok d S else .no
  | _ => .no
/-- a def that is given no cell: it runs on no store, the caller's stays -/
def shutM (m : DM) : DM := fun ds S => if ncL ds = true then shutR S (m ds []) else .no
section
variable {P : Program} {w : World} {K : PySem.W.Frag} {mg : Str → Option Value} {base : Heap} {x : Str} {params : Arguments} {body : List Stmt} {scope : Scope} {f : Addr} {fd : FuncData} {ps : List Str} {k : Nat} {m : DM}
theorem RunsM.shut (h : RunsM P w K mg base k f fd ps m) : RunsM P w K mg base k f fd ps (shutM m) :=
  fun A outer s H args us vs Q Z ρ St ds hr hg e0 hb r hl k0 i0 q => by
    unfold shutM at q
    by_cases c : ncL ds = true
    · rw [if_pos c] at q
      refine h A outer s H args us vs Q (ρ ++ Z) [] [] ds hr hg e0 hb r hl k0.shut (i0.shut c) ?_
      cases e : m ds [] with
      | ok d S1 =>
        rw [e] at q
        unfold shutR at q
        simp only at q
        by_cases c2 : nc d = true
        · rw [if_pos c2] at q
          exact fun ρ' H' v e' k' i' => (show Pt K Z ρ H Q d St from q) ρ H' v e'.back (k0.back e') (i'.open c2)
        · rw [if_neg c2] at q; exact q.elim
      | exc _ _ _ => rw [e] at q; exact q.elim
      | no => rw [e] at q; exact q.elim
    · rw [if_neg c] at q; exact q.elim
theorem Has.shut (h : Has P w K mg base k x params body scope ps m) : Has P w K mg base k x params body scope ps (shutM m) :=
  let ⟨f, fd, F, hm, R⟩ := h.ex
  ⟨⟨f, fd, F, hm, R.shut⟩⟩
end
/-! ### + that makes a list that changes -/
def fAddC : F2 := fun x y S => match vl S x, vl S y with
  | some xs, some ys => newCell (xs ++ ys) S
  | _, _ => none
theorem od_addC (K : PySem.W.Frag) : OpD K (rAdd K) fAddC := by
  intro Z ρ S S' H x y dx dy d Q k ix iy h q
  unfold fAddC at h
  split at h
  · rename_i xs ys e1 e2
    obtain ⟨a, vs, rfl, ha, ra⟩ := vl_tr k ix e1
    obtain ⟨b, ws, rfl, hb, rb⟩ := vl_tr k iy e2
    have hz : (xs ++ ys).length ≤ 1000000 := (of_if (show (if (xs ++ ys).length ≤ 1000000 then some (D.cell S.length, S ++ [.lst (xs ++ ys)]) else none) = some (d, S') from h)).1
    rw [List.length_append] at hz
    exact .inr (.inr (.inr ⟨a, b, vs, ws, rfl, rfl, ha, hb, by rw [ra.length, rb.length]; exact sz hz, (new_cell k (ra.append rb) h q).2⟩))
  · cases h
theorem x_addC {X : Cx} {W : Wsh X.K} {a b : Expr} {ma mb : EM} {pos : Pos} (ha : PEm X W a ma) (hb : PEm X W b mb) : PEm X W (.BinOp a .Add b pos) (mBin fAddC ma mb) := em_op or_add (od_addC _) ha hb
/-! ### evaluation -/
def valOf : R D → D
  | .ok d _ => d
  | _ => .non
def isOk : R D → Bool
  | .ok _ _ => true
  | _ => false
end Pv

/-! Pv34: sorted of a tuple. -/
namespace Pv
open PySem PySem.Spec PyProof.Rows L2 PySem.W
def rSortedTup (K : PySem.W.Frag) : List V → Hp → VK → Prop := fun vs H Q => ∃ (a : Addr) (bs : List (V × PyData)), vs = [.ref a] ∧ SqT K H a (bs.map (·.1)) ∧ (∀ b ∈ bs, Dp K H b.1 b.2) ∧ PySem.W.AllAlike (bs.map (·.2)) ∧ PySem.W.Sortable (bs.map (·.2)) ∧ (∀ b ∈ bs, b.2.depth ≤ 50) ∧
  ∀ p, H p = none → Q (.ref p) (upd H p (.lst ((bs.mergeSort (PySem.W.dataLe false (·.2))).map (·.1))))
theorem cr_sortedTup {X : Cx} (hu : X.A.units + 64 < cLine) : CallR X (.builtin "sorted") (rSortedTup X.K) := by
  rintro pins s σ H xs us Q I r ⟨a, bs, rfl, hl, hd, ha, hs, hp, q⟩
  obtain ⟨u, rfl, rx⟩ := vals1 r
  obtain rfl : u = Value.ref a := rx
  obtain ⟨its, rv, ⟨o, ho, hc, n, hdt⟩, hz⟩ := I.tuple hl
  have len : its.length = bs.length := by rw [← rv.length, List.length_map]
  have hz' : bs.length ≤ sizeLine := by rw [List.length_map] at hz; exact hz
  have at_ : ∀ (i : Nat) (v : Value) (b : V × PyData), its[i]? = some v → bs[i]? = some b → RelV b.1 v ∧ ∃ as, Reads s.heap v b.2 as := fun i v b h1 h2 => by
    have h3 : (bs.map (·.1))[i]? = some b.1 := by rw [List.getElem?_map, h2]; rfl
    obtain ⟨u, h4, h5⟩ := rv.get h3
    rw [h1] at h4; cases h4
    exact ⟨h5, Dp.reads I b.2 b.1 v (hd b (List.mem_of_getElem? h2)) h5⟩
  refine Calls.call_function_entry PyProof.Rows.kind_sorted PyProof.Rows.plain_sorted PyProof.Rows.entry_sorted (PyProof.Rows.args_sorted1 _) ?_
  unfold Builtin.«sorted»
  refine wpAny_bind (m := checkCount "sorted" 1 1 _) (wpAny_pure ?_)
  refine wpAny_bind (wpAny_collect_seq a (.inr rfl) ho hc hdt (fun h' kp => ?_) (by rw [List.size_toArray, len]; exact hz'))
  have e0 : its.toArray.toList = its := by simp
  rw [e0]
  have I1 : Inv X pins σ H { s with heap := h' } := I.kept (t' := s.toks) kp
  have ek : PySem.W.EachIs (fun v (b : V × PyData) => RelV b.1 v) its bs := each_zip len fun i v b h1 h2 => (at_ i v b h1 h2).1
  refine wpAny_bind (wpAny_newList ?_ (by rw [len]; exact hz'))
  have hoL : (h'.push (seqObj "list" its.toArray 0)).get? h'.objs.size = some (seqObj "list" its.toArray 0) := Heap.get?_push_size _ rfl
  have er : PySem.W.EachIs (fun v (b : V × PyData) => ∃ as, Reads (h'.push (seqObj "list" its.toArray 0)) v b.2 as ∧ h'.objs.size ∉ as) its bs := each_zip len fun i v b h1 h2 => by
    obtain ⟨as, rd⟩ := (at_ i v b h1 h2).2
    have rd' : Reads h' v b.2 as := PyProof.Rows.Reads.keeps kp rd
    refine ⟨as, PyProof.Rows.Reads.keeps (fun b o q => Heap.get?_push_of_some _ q) rd', fun hm => ?_⟩
    obtain ⟨o, q⟩ := PyProof.On.reads_mem_get rd' _ hm
    exact Nat.lt_irrefl _ (Heap.lt_size q)
  refine wpAny_bind (wpAny_holding (PySem.W.list_sort_data (s := { s with heap := h'.push (seqObj "list" its.toArray 0) }) (bs := bs) (enc := (·.2)) (R := fun v (b : V × PyData) => RelV b.1 v) hoL ek er ha hs hz' ?_ fun out lo eo => ?_))
  · intro b hb
    have := hp b hb
    show X.A.units + 1 + 1 + _ < cLine
    omega
  · obtain ⟨c, hc2⟩ := sortedHeap_at (vs := its) (out := out.toArray) hoL
    have hn : H h'.objs.size = none := I1.hok.fresh (Nat.le_refl _)
    have kp2 : ∀ b u, h'.get? b = some u → (sortedHeap (h'.push (seqObj "list" its.toArray 0)) h'.objs.size its out.toArray).get? b = some u := fun b u q => by
      have hlt := Heap.lt_size q
      rw [sortedHeap_old (Nat.ne_of_lt hlt) (by rw [Heap.size_push]; exact Nat.lt_succ_of_lt hlt)]
      exact Heap.get?_push_of_some _ q
    have hlen : ((bs.mergeSort (PySem.W.dataLe false (·.2))).map (·.1)).length ≤ sizeLine := by
      rw [List.length_map, List.length_mergeSort]
      exact hz'
    exact wpAny_pure ⟨_, rfl, .ref _, _, I1.laid (t' := s.toks) (o := .lst ((bs.mergeSort (PySem.W.dataLe false (·.2))).map (·.1))) kp2 (Nat.le_refl _) ⟨hlen, out, c, each_vals (g := fun b : V × PyData => b.1) eo, hc2⟩, rfl, q _ hn⟩
def fSortedC : FA := fun xs S => match xs with
  | [x] => match vw S x with
    | .tup ds => match toPyAll ds with
      | some ps => if (alkAll ps && (ps.all isTup1 || ps.all fun p => !isTup p) && decide (PyData.depthAll ps ≤ 50) && decide (ds.length ≤ 1000000)) = true then some (.lst (sortDD ps ds), S) else none
      | none => none
    | _ => fSortedB xs S
  | _ => none
theorem cd_sortedC (K : PySem.W.Frag) : CallD K (fun xs H Q => rSortedTup K xs H Q ∨ (rSortedAny K xs H Q ∨ rSortedDK xs H Q)) fSortedC := by
  intro Z ρ S S' H xs ds d Q k i h q
  unfold fSortedC at h
  split at h
  · obtain ⟨v, rfl, iv⟩ := is1 i
    split at h
    · rename_i es e
      split at h
      · rename_i ps ep
        obtain ⟨hc, e2⟩ := of_if h
        cases e2
        simp only [Bool.and_eq_true, Bool.or_eq_true, decide_eq_true_eq] at hc
        obtain ⟨⟨⟨hk, ht⟩, hd⟩, hz⟩ := hc
        obtain ⟨a, vs, rfl, hl, r⟩ := vw_tup iv e
        have dp := r.dp ep
        have l0 := dpAll_length dp
        have A := alk_of hk
        refine .inl ⟨a, vs.zip ps, rfl, by rw [zip_fst l0]; exact hl, dpAll_mem dp, by rw [zip_snd l0]; exact fun x hx y hy => A.1 x hx y hy, ?_, fun b hb => ?_, fun p hp => ?_⟩
        · rw [zip_snd l0]
          rcases ht with ht | ht
          · refine .inl fun x hx => ?_
            have := List.all_eq_true.mp ht x hx
            unfold isTup1 at this
            split at this
            · exact ⟨_, _, rfl⟩
            · cases this
          · refine .inr fun x hx => ⟨A.2 x hx, fun ys e => ?_⟩
            have := List.all_eq_true.mp ht x hx
            rw [e] at this
            cases this
        · exact Nat.le_trans (depth_mem (List.of_mem_zip hb).2) hd
        · have rr := sort_pairs r (toPyAll_length ep)
          exact q ρ _ _ (ext_new hp) (k.new hp) (new_lst k hp rr)
      · cases h
    · exact .inr (cd_sortedB K Z ρ S S' H [v] _ d Q k i h q)
  · cases h
theorem b_sortedC {X : Cx} {j : Nat} (ft : Fit X j) (hm : X.mg "sorted" = none) (hc : X.calm = true := by rfl) : Blt X "sorted" fSortedC :=
  ⟨hm, by decide, by decide, _, cd_sortedC _, .inl ⟨_, rfl, CallR.or (cr_sortedTup ft.room.units) (CallR.or (cr_sortedAny ft.room.units) (cr_sortedDK hc ft.room.units))⟩⟩
end Pv

/-! Pv35: < <= > >= of alike data. -/
noncomputable section
namespace Pv
open PySem PySem.Spec PyProof.Rows L2 PySem.W
def rOrd (K : PySem.W.Frag) (c : PyData → PyData → Bool) : R2 := fun x y H Q => ∃ p q, Dp K H x p ∧ Dp K H y q ∧ alike p q = true ∧ p ≠ .none ∧ p.depth ≤ 60 ∧ Q (.bl (c p q)) H
def notNone : PyData → Bool
  | .none => false
  | _ => true
def fOrd (c : PyData → PyData → Bool) (f : F2) : F2 := fun x y S => match f x y S with
  | some r => some r
  | none => match toPy (vw S x), toPy (vw S y) with
    | some p, some q => if (alike p q && notNone p && decide (p.depth ≤ 60)) = true then some (.bl (c p q), S) else none
    | _, _ => none
theorem od_ord (K : PySem.W.Frag) {r : R2} {c : PyData → PyData → Bool} {f : F2} (hf : OpD K r f) : OpD K (fun x y H Q => r x y H Q ∨ rOrd K c x y H Q) (fOrd c f) := by
  intro Z ρ S S' H x y dx dy d Q k ix iy h q
  unfold fOrd at h
  split at h
  · rename_i w e
    cases h
    exact .inl (hf Z ρ S S' H x y dx dy d Q k ix iy e q)
  · split at h
    · rename_i p p' e1 e2
      obtain ⟨hc, e3⟩ := of_if h
      cases e3
      simp only [Bool.and_eq_true, decide_eq_true_eq] at hc
      have hn : p ≠ .none := fun z => by
        have := hc.1.2
        rw [z] at this
        cases this
      exact .inr ⟨p, p', vw_dp k ix e1, vw_dp k iy e2, hc.1.1, hn, hc.2, q.val k (.bl _)⟩
    · cases h
section
variable {X : Cx} {j : Nat}
theorem or_ltD (hu : X.A.units + 64 < cLine) : OpR X (compareOp .Lt) (rOrd X.K fun p q => dataLt p q) := by
  rintro pins s σ H x y v u Q I rx ry ⟨p, q, dp, dq, ha, hn, hd, h⟩
  obtain ⟨as, r1⟩ := Dp.reads I _ _ v dp rx
  obtain ⟨bs, r2⟩ := Dp.reads I _ _ u dq ry
  exact lt_data r1 r2 ha hn (by omega) ⟨.bl _, H, I, rfl, h⟩
theorem or_leD (hu : X.A.units + 64 < cLine) : OpR X (compareOp .LtE) (rOrd X.K fun p q => !dataLt q p) := by
  rintro pins s σ H x y v u Q I rx ry ⟨p, q, dp, dq, ha, hn, hd, h⟩
  obtain ⟨as, r1⟩ := Dp.reads I _ _ v dp rx
  obtain ⟨bs, r2⟩ := Dp.reads I _ _ u dq ry
  exact le_data r1 r2 ha hn (by omega) ⟨.bl _, H, I, rfl, h⟩
theorem or_gtD (hu : X.A.units + 64 < cLine) : OpR X (compareOp .Gt) (rOrd X.K fun p q => dataLt q p) := by
  rintro pins s σ H x y v u Q I rx ry ⟨p, q, dp, dq, ha, hn, hd, h⟩
  obtain ⟨as, r1⟩ := Dp.reads I _ _ v dp rx
  obtain ⟨bs, r2⟩ := Dp.reads I _ _ u dq ry
  exact gt_data r1 r2 ha hn (by omega) ⟨.bl _, H, I, rfl, h⟩
theorem or_geD (hu : X.A.units + 64 < cLine) : OpR X (compareOp .GtE) (rOrd X.K fun p q => !dataLt p q) := by
  rintro pins s σ H x y v u Q I rx ry ⟨p, q, dp, dq, ha, hn, hd, h⟩
  obtain ⟨as, r1⟩ := Dp.reads I _ _ v dp rx
  obtain ⟨bs, r2⟩ := Dp.reads I _ _ u dq ry
  exact ge_data r1 r2 ha hn (by omega) ⟨.bl _, H, I, rfl, h⟩
def fLtA : F2 := fOrd (fun p q => dataLt p q) fLt
def fLeA : F2 := fOrd (fun p q => !dataLt q p) fLe
def fGtA : F2 := fOrd (fun p q => dataLt q p) fGt
def fGeA : F2 := fOrd (fun p q => !dataLt p q) fGe
theorem c_ltA (ft : Fit X j) : Cmp X .Lt fLtA := ⟨_, or_lt.or (or_ltD ft.room.units), od_ord _ (od_lt _)⟩
theorem c_leA (ft : Fit X j) : Cmp X .LtE fLeA := ⟨_, or_le.or (or_leD ft.room.units), od_ord _ (od_le _)⟩
theorem c_gtA (ft : Fit X j) : Cmp X .Gt fGtA := ⟨_, or_gt.or (or_gtD ft.room.units), od_ord _ (od_gt _)⟩
theorem c_geA (ft : Fit X j) : Cmp X .GtE fGeA := ⟨_, op_ge.or (or_geD ft.room.units), od_ord _ (od_ge _)⟩
end
/-! ### short words -/
noncomputable def mCompN (i : Nat) (g : BM) (mt : TM) (me : EM) (vs : List Nat) : EM := mCompK i g mt me vs (mComp (mIter (mV i)) g mt me vs)
theorem em_compN {X : Cx} {W : Wsh X.K} {elt tg : Expr} {ifs : List Expr} {scope : Scope} {own : List (Str × Nat)} {pos p : Pos} {g : BM} {mt : TM} {me : EM} {x : Str} (i : Nat) (hc : X.calm = true) (hN : X.N.Nodup) (b : Blk X elt tg ifs scope own g mt me) (hx : X.N[i]? = some x := by rfl) (hv : Vis X.env.scope x := by first | exact Or.inl rfl | exact Or.inr (Or.inl rfl) | exact Or.inr (Or.inr rfl)) (hd : (x == ("__debug__" : Str)) = false := by decide)
    (hcd : (x == ("__classdict__" : Str)) = false := by decide) (hs : ∀ y, foldedSetIterable (.Name x p) X.env y = pure y := by intro _; rfl) :
    PEm X W (.ListComp elt [⟨tg, .Name x p, ifs, 0⟩] scope pos) (mCompN i g mt me (own.map (·.2))) := em_compK i hc hN b hx hv hd hcd hs
end Pv
end

noncomputable section
/-! Pv36: operations that the kernel reckons soon. -/
namespace Pv
open PySem PySem.Spec PyProof.Rows L2
/-- the list is laid out, then handed on -/
def forceK {α : Type} (xs : List D) (k : List D → α) : α := List.rec (motive := fun _ => (List D → α) → α) (fun k => k []) (fun x _ ih k => ih fun ys => k (x :: ys)) xs k
theorem forceK_eq {α : Type} : ∀ (xs : List D) (k : List D → α), forceK xs k = k xs
  | [], _ => rfl
  | x :: xs, k => forceK_eq xs fun ys => k (x :: ys)
def fAppendF : FM := fun x xs S => match x, xs with
  | .cell k, [y] => match S[k]? with
    | some (.lst ds) => if ds.length < 1000000 then forceK (ds ++ [y]) fun es => some (.non, S.set k (.lst es)) else none
    | _ => none
  | _, _ => none
theorem fAppendF_eq : fAppendF = fAppend := by
  funext x xs S
  cases x with
  | cell k =>
    match xs with
    | [] => rfl
    | [y] =>
      show (match S[k]? with
        | some (.lst ds) => if ds.length < 1000000 then forceK (ds ++ [y]) fun es => some (D.non, S.set k (.lst es)) else none
        | _ => (none : Option (D × Sto))) = (match S[k]? with
        | some (.lst ds) => if ds.length < 1000000 then some (D.non, S.set k (.lst (ds ++ [y]))) else none
        | _ => (none : Option (D × Sto)))
      cases S[k]? with
      | none => rfl
      | some c =>
        cases c with
        | lst ds => simp only [forceK_eq]
        | _ => rfl
    | _ :: _ :: _ => rfl
  | _ => rfl
theorem em_appendF {X : Cx} {W : Wsh X.K} {o e : Expr} {es : List Expr} {ma : EM} {ms : AM} {apos cpos : Pos} (ho : PEm X W o ma) (ha : PAm X W (e :: es) ms)
    (hbase : attributeBase o "append" X.env (eval o X.env) = eval o X.env := by rfl)
    (hfew : ((backTo cpos (starEach (e :: es) X.env)).all (fun x => !x.1) && (backToKw cpos (keywordEach [] X.env)).all (fun x => x.1.isSome)
      && decide ((e :: es).length + ([] : List Keyword).length + (if ([] : List Keyword).isEmpty then 0 else 1) < 30)) = true := by rfl)
    (hline : (apos.endLine == cpos.line) = true := by rfl) (hs : starEach (e :: es) X.env = (false, eval e X.env) :: starEach es X.env := by rfl) (hplain : (backTo cpos (starEach es X.env)).any (·.1) = false := by rfl) :
    PEm X W (.Call (.Attribute o "append" apos) (e :: es) [] cpos) (mCellM fAppendF ma ms) := by
  rw [fAppendF_eq]
  exact em_append ho ha hbase hfew hline hs hplain
end Pv
end

namespace Pv
open PySem PySem.Spec PyProof.Rows L2
theorem Fit.blk {X : Cx} {j : Nat} {s : Shared} {H : Hp} {scope : Scope} {cenv : Env} {fp : List Addr} (ft : Fit X j) : Fit (X.blk s H scope cenv fp) j := ⟨ft.room, ft.grd⟩
end Pv
/-! the defs of the row, as functions on data: printed by gen.py -/
noncomputable section
namespace Lw
open PySem PySem.Spec PyProof.Rows L2 Pv
def top (i : Nat) : Stmt := PySem.Challenge.pw_onestrokeatatime_k42_great_strokes_that.main.body.getD i (.Pass ⟨0, 0, 0, 0⟩)
abbrev HasT (P : Program) (w : World) (K : PySem.W.Frag) (mg : Str → Option Value) (base : Heap) (k : Nat) (i : Nat) (x : Str) (ps : List Str) (m : DM) : Prop := Has P w K mg base k x (defArgs (top i)) (defBody (top i)) (defScope (top i)) ps m

structure Fx (K : PySem.W.Frag) (mg : Str → Option Value) : Prop where
  b_abs : mg "abs" = none
  b_all : mg "all" = none
  b_any : mg "any" = none
  b_bool : mg "bool" = none
  b_dict : mg "dict" = none
  b_enumerate : mg "enumerate" = none
  b_int : mg "int" = none
  b_isinstance : mg "isinstance" = none
  b_len : mg "len" = none
  b_list : mg "list" = none
  b_max : mg "max" = none
  b_min : mg "min" = none
  b_range : mg "range" = none
  b_repr : mg "repr" = none
  b_set : mg "set" = none
  b_sorted : mg "sorted" = none
  b_str : mg "str" = none
  b_sum : mg "sum" = none
  b_tuple : mg "tuple" = none
  b_zip : mg "zip" = none
  g_ENDLESS : ∃ t : Tok, mg "ENDLESS" = some (.str "endless" t)
  g_FIVE : ∃ t : Tok, mg "FIVE" = some (.int 5 t)
  g_FOUR : ∃ t : Tok, mg "FOUR" = some (.int 4 t)
  g_HEARD : ∃ t : Tok, mg "HEARD" = some (.str "heard" t)
  g_MOST_ENTRIES : ∃ t : Tok, mg "MOST_ENTRIES" = some (.int 16 t)
  g_MOST_OUTLINE : ∃ t : Tok, mg "MOST_OUTLINE" = some (.int 8 t)
  g_MOST_REST : ∃ t : Tok, mg "MOST_REST" = some (.int 7 t)
  g_MOST_ROW : ∃ t : Tok, mg "MOST_ROW" = some (.int 2000 t)
  g_SIGNS : ∃ t : Tok, mg "SIGNS" = some (.str "abcdefghijklmnopqrstuvwxyz" t)
  f__law_cells : ∃ f fd, FunD K "_law_cells" "_law_cells" (defArgs (top 77)) (defBody (top 77)) (defScope (top 77)) [] [] f fd ∧ mg "_law_cells" = some (.ref f)
  f__law_pot : ∃ f fd, FunD K "_law_pot" "_law_pot" (defArgs (top 75)) (defBody (top 75)) (defScope (top 75)) [] [] f fd ∧ mg "_law_pot" = some (.ref f)
  f_is_ascending : ∃ f fd, FunD K "is_ascending" "is_ascending" (defArgs (top 12)) (defBody (top 12)) (defScope (top 12)) [] [] f fd ∧ mg "is_ascending" = some (.ref f)
  f_are_signs : ∃ f fd, FunD K "are_signs" "are_signs" (defArgs (top 13)) (defBody (top 13)) (defScope (top 13)) [] [] f fd ∧ mg "are_signs" = some (.ref f)
  f_is_signs : ∃ f fd, FunD K "is_signs" "is_signs" (defArgs (top 14)) (defBody (top 14)) (defScope (top 14)) [] [] f fd ∧ mg "is_signs" = some (.ref f)
  f_is_code_of : ∃ f fd, FunD K "is_code_of" "is_code_of" (defArgs (top 21)) (defBody (top 21)) (defScope (top 21)) [] [] f fd ∧ mg "is_code_of" = some (.ref f)
  f_check_code : ∃ f fd, FunD K "check_code" "check_code" (defArgs (top 23)) (defBody (top 23)) (defScope (top 23)) [] [] f fd ∧ mg "check_code" = some (.ref f)
  f_plain_dictionary : ∃ f fd, FunD K "plain_dictionary" "plain_dictionary" (defArgs (top 25)) (defBody (top 25)) (defScope (top 25)) [] [] f fd ∧ mg "plain_dictionary" = some (.ref f)
  f__law_take : ∃ f fd, FunD K "_law_take" "_law_take" (defArgs (top 76)) (defBody (top 76)) (defScope (top 76)) [] [] f fd ∧ mg "_law_take" = some (.ref f)
  f_begins_by : ∃ f fd, FunD K "begins_by" "begins_by" (defArgs (top 47)) (defBody (top 47)) (defScope (top 47)) [] [] f fd ∧ mg "begins_by" = some (.ref f)
  f_step_by : ∃ f fd, FunD K "step_by" "step_by" (defArgs (top 29)) (defBody (top 29)) (defScope (top 29)) [] [] f fd ∧ mg "step_by" = some (.ref f)
  f_steps_of : ∃ f fd, FunD K "steps_of" "steps_of" (defArgs (top 30)) (defBody (top 30)) (defScope (top 30)) [] [] f fd ∧ mg "steps_of" = some (.ref f)
  f_gathered : ∃ f fd, FunD K "gathered" "gathered" (defArgs (top 31)) (defBody (top 31)) (defScope (top 31)) [] [] f fd ∧ mg "gathered" = some (.ref f)
  f_endless_of : ∃ f fd, FunD K "endless_of" "endless_of" (defArgs (top 49)) (defBody (top 49)) (defScope (top 49)) [] [] f fd ∧ mg "endless_of" = some (.ref f)
  f_code_by : ∃ f fd, FunD K "code_by" "code_by" (defArgs (top 24)) (defBody (top 24)) (defScope (top 24)) [] [] f fd ∧ mg "code_by" = some (.ref f)
  f_way_to : ∃ f fd, FunD K "way_to" "way_to" (defArgs (top 51)) (defBody (top 51)) (defScope (top 51)) [] [] f fd ∧ mg "way_to" = some (.ref f)
  f_led_by : ∃ f fd, FunD K "led_by" "led_by" (defArgs (top 48)) (defBody (top 48)) (defScope (top 48)) [] [] f fd ∧ mg "led_by" = some (.ref f)
  f_place_to : ∃ f fd, FunD K "place_to" "place_to" (defArgs (top 50)) (defBody (top 50)) (defScope (top 50)) [] [] f fd ∧ mg "place_to" = some (.ref f)
  f_round_by : ∃ f fd, FunD K "round_by" "round_by" (defArgs (top 53)) (defBody (top 53)) (defScope (top 53)) [] [] f fd ∧ mg "round_by" = some (.ref f)
  f_ring_by : ∃ f fd, FunD K "ring_by" "ring_by" (defArgs (top 52)) (defBody (top 52)) (defScope (top 52)) [] [] f fd ∧ mg "ring_by" = some (.ref f)
  f_common_many : ∃ f fd, FunD K "common_many" "common_many" (defArgs (top 27)) (defBody (top 27)) (defScope (top 27)) [] [] f fd ∧ mg "common_many" = some (.ref f)
  f_alike_on : ∃ f fd, FunD K "alike_on" "alike_on" (defArgs (top 55)) (defBody (top 55)) (defScope (top 55)) [] [] f fd ∧ mg "alike_on" = some (.ref f)
  f_ranks_by : ∃ f fd, FunD K "ranks_by" "ranks_by" (defArgs (top 54)) (defBody (top 54)) (defScope (top 54)) [] [] f fd ∧ mg "ranks_by" = some (.ref f)
  f_starts_by : ∃ f fd, FunD K "starts_by" "starts_by" (defArgs (top 56)) (defBody (top 56)) (defScope (top 56)) [] [] f fd ∧ mg "starts_by" = some (.ref f)
  f_is_most : ∃ f fd, FunD K "is_most" "is_most" (defArgs (top 58)) (defBody (top 58)) (defScope (top 58)) [] [] f fd ∧ mg "is_most" = some (.ref f)
  f_readings_by : ∃ f fd, FunD K "readings_by" "readings_by" (defArgs (top 57)) (defBody (top 57)) (defScope (top 57)) [] [] f fd ∧ mg "readings_by" = some (.ref f)
  f_heard_by : ∃ f fd, FunD K "heard_by" "heard_by" (defArgs (top 59)) (defBody (top 59)) (defScope (top 59)) [] [] f fd ∧ mg "heard_by" = some (.ref f)
  f_is_tuple_of : ∃ f fd, FunD K "is_tuple_of" "is_tuple_of" (defArgs (top 11)) (defBody (top 11)) (defScope (top 11)) [] [] f fd ∧ mg "is_tuple_of" = some (.ref f)
  f_is_entry_of : ∃ f fd, FunD K "is_entry_of" "is_entry_of" (defArgs (top 19)) (defBody (top 19)) (defScope (top 19)) [] [] f fd ∧ mg "is_entry_of" = some (.ref f)
  f_is_dictionary_of : ∃ f fd, FunD K "is_dictionary_of" "is_dictionary_of" (defArgs (top 20)) (defBody (top 20)) (defScope (top 20)) [] [] f fd ∧ mg "is_dictionary_of" = some (.ref f)
  f_check_dictionary : ∃ f fd, FunD K "check_dictionary" "check_dictionary" (defArgs (top 22)) (defBody (top 22)) (defScope (top 22)) [] [] f fd ∧ mg "check_dictionary" = some (.ref f)
  f_heard_told : ∃ f fd, FunD K "heard_told" "heard_told" (defArgs (top 65)) (defBody (top 65)) (defScope (top 65)) [] [] f fd ∧ mg "heard_told" = some (.ref f)
  f_is_integer : ∃ f fd, FunD K "is_integer" "is_integer" (defArgs (top 8)) (defBody (top 8)) (defScope (top 8)) [] [] f fd ∧ mg "is_integer" = some (.ref f)
  f_is_between : ∃ f fd, FunD K "is_between" "is_between" (defArgs (top 9)) (defBody (top 9)) (defScope (top 9)) [] [] f fd ∧ mg "is_between" = some (.ref f)
  f_are_between : ∃ f fd, FunD K "are_between" "are_between" (defArgs (top 10)) (defBody (top 10)) (defScope (top 10)) [] [] f fd ∧ mg "are_between" = some (.ref f)
  f_is_reading_of : ∃ f fd, FunD K "is_reading_of" "is_reading_of" (defArgs (top 38)) (defBody (top 38)) (defScope (top 38)) [] [] f fd ∧ mg "is_reading_of" = some (.ref f)
  f_row_by : ∃ f fd, FunD K "row_by" "row_by" (defArgs (top 39)) (defBody (top 39)) (defScope (top 39)) [] [] f fd ∧ mg "row_by" = some (.ref f)
  f_are_along : ∃ f fd, FunD K "are_along" "are_along" (defArgs (top 62)) (defBody (top 62)) (defScope (top 62)) [] [] f fd ∧ mg "are_along" = some (.ref f)
  f_is_natural : ∃ f fd, FunD K "is_natural" "is_natural" (defArgs (top 60)) (defBody (top 60)) (defScope (top 60)) [] [] f fd ∧ mg "is_natural" = some (.ref f)
  f_is_rest : ∃ f fd, FunD K "is_rest" "is_rest" (defArgs (top 34)) (defBody (top 34)) (defScope (top 34)) [] [] f fd ∧ mg "is_rest" = some (.ref f)
  f_are_ranks : ∃ f fd, FunD K "are_ranks" "are_ranks" (defArgs (top 61)) (defBody (top 61)) (defScope (top 61)) [] [] f fd ∧ mg "are_ranks" = some (.ref f)
  f_is_ring : ∃ f fd, FunD K "is_ring" "is_ring" (defArgs (top 63)) (defBody (top 63)) (defScope (top 63)) [] [] f fd ∧ mg "is_ring" = some (.ref f)
  f_shows_by : ∃ f fd, FunD K "shows_by" "shows_by" (defArgs (top 64)) (defBody (top 64)) (defScope (top 64)) [] [] f fd ∧ mg "shows_by" = some (.ref f)
  f_shows_heard : ∃ f fd, FunD K "shows_heard" "shows_heard" (defArgs (top 66)) (defBody (top 66)) (defScope (top 66)) [] [] f fd ∧ mg "shows_heard" = some (.ref f)
  f_least_heard : ∃ f fd, FunD K "least_heard" "least_heard" (defArgs (top 67)) (defBody (top 67)) (defScope (top 67)) [] [] f fd ∧ mg "least_heard" = some (.ref f)
  f__law_is_right : ∃ f fd, FunD K "_law_is_right" "_law_is_right" (defArgs (top 78)) (defBody (top 78)) (defScope (top 78)) [] [] f fd ∧ mg "_law_is_right" = some (.ref f)
  f_is_row_of : ∃ f fd, FunD K "is_row_of" "is_row_of" (defArgs (top 15)) (defBody (top 15)) (defScope (top 15)) [] [] f fd ∧ mg "is_row_of" = some (.ref f)
  f_check_row : ∃ f fd, FunD K "check_row" "check_row" (defArgs (top 36)) (defBody (top 36)) (defScope (top 36)) [] [] f fd ∧ mg "check_row" = some (.ref f)
  f_check_read : ∃ f fd, FunD K "check_read" "check_read" (defArgs (top 37)) (defBody (top 37)) (defScope (top 37)) [] [] f fd ∧ mg "check_read" = some (.ref f)
  f_entries_at : ∃ f fd, FunD K "entries_at" "entries_at" (defArgs (top 40)) (defBody (top 40)) (defScope (top 40)) [] [] f fd ∧ mg "entries_at" = some (.ref f)
  f_come_to : ∃ f fd, FunD K "come_to" "come_to" (defArgs (top 41)) (defBody (top 41)) (defScope (top 41)) [] [] f fd ∧ mg "come_to" = some (.ref f)
  f_longest_on : ∃ f fd, FunD K "longest_on" "longest_on" (defArgs (top 69)) (defBody (top 69)) (defScope (top 69)) [] [] f fd ∧ mg "longest_on" = some (.ref f)
  f_longest_with : ∃ f fd, FunD K "longest_with" "longest_with" (defArgs (top 70)) (defBody (top 70)) (defScope (top 70)) [] [] f fd ∧ mg "longest_with" = some (.ref f)
  f_longest_each : ∃ f fd, FunD K "longest_each" "longest_each" (defArgs (top 71)) (defBody (top 71)) (defScope (top 71)) [] [] f fd ∧ mg "longest_each" = some (.ref f)
  f_firsts_of : ∃ f fd, FunD K "firsts_of" "firsts_of" (defArgs (top 72)) (defBody (top 72)) (defScope (top 72)) [] [] f fd ∧ mg "firsts_of" = some (.ref f)
  f_decided_at : ∃ f fd, FunD K "decided_at" "decided_at" (defArgs (top 73)) (defBody (top 73)) (defScope (top 73)) [] [] f fd ∧ mg "decided_at" = some (.ref f)
  f__law_right : ∃ f fd, FunD K "_law_right" "_law_right" (defArgs (top 79)) (defBody (top 79)) (defScope (top 79)) [] [] f fd ∧ mg "_law_right" = some (.ref f)
  f_law : ∃ f fd, FunD K "law" "law" (defArgs (top 80)) (defBody (top 80)) (defScope (top 80)) [] [] f fd ∧ mg "law" = some (.ref f)
section
variable {P : Program} {w : World} {K : PySem.W.Frag} {mg : Str → Option Value} {base : Heap}
def m__law_cells : SM :=
  mRet (mLRng1 (mCall fMax (mCons (mK (.int 1)) (mCons (mCall fMin (mCons (mV 1) (mCons (mCall fLen (mCons (mV 0) mNil)) mNil))) mNil))))
def d__law_cells : DM := mFnT 2 m__law_cells
theorem sc__law_cells : FnScope ["script", "most"] ["script", "most"] (defScope (top 77)) := ⟨rfl, rfl, rfl, by decide +kernel, rfl, by decide +kernel, by decide +kernel⟩
theorem ok__law_cells (T : Fx K mg) : HasT P w K mg base 1 77 "_law_cells" ["script", "most"] d__law_cells := by
  obtain ⟨f, fd, F, hm⟩ := T.f__law_cells
  refine ⟨f, fd, F, hm, runsT (N := ["script", "most"]) (m := m__law_cells) F sc__law_cells fun cdv A outer s H hr hg => ?_⟩
  have ft : Fit (cxOf CX0 P w K mg base ["script", "most"] "_law_cells" (defScope (top 77)) f cdv A outer s H E0).nox 0 := ⟨hr, hg⟩
  have hN : (cxOf CX0 P w K mg base ["script", "most"] "_law_cells" (defScope (top 77)) f cdv A outer s H E0).nox.N.Nodup := (sc__law_cells).nd
  exact (ssm_one (sm_ret (em_lrng1 rfl (by rfl) T.b_list (by rfl) T.b_range (x_blt (b_max T.b_max) (am_cons x_int (am_cons (x_blt (b_min T.b_min) (am_cons (x_v 1) (am_cons (x_blt (b_len T.b_len) (am_cons (x_v 0) am_nil)) am_nil))) am_nil))))))
def m__law_pot : SM :=
  mSeq (mSet 2 (mIf (mBool (mBin fLt (mV 1) (mCall fLen (mCons (mV 0) mNil)))) (mBin fIx (mV 0) (mV 1)) (mBin fAdd (mBin fAdd (mBin fMod (mCall fSum (mCons (mSl (mV 0) (mNoPart) (mPart (mK (.int 1)))) mNil)) (mK (.int 1000639))) (mBin fMul (mK (.int 5647)) (mV 1))) (mK (.int 811)))))
  (mSeq (mSet 3 (mBin fMul (mBin fMod (mCall fInt (mCons (mCall fAbs (mCons (mV 2) mNil)) mNil)) (mBin fPow (mBin fPow (mK (.int 10)) (mK (.int 60))) (mK (.int 5)))) (mCall fInt (mCons (mBin fGe (mCall fAbs (mCons (mV 2) mNil)) (mBin fPow (mK (.int 10)) (mK (.int 18)))) mNil))))
  (mSeq (mSet 4 (mBin fMod (mCall fInt (mCons (mV 2) mNil)) (mK (.int 2305843009213693951))))
  (mRet (mCell (mCons (mV 3) (mCons (mBin fMod (mCall fInt (mCons (mBin fAdd (mBin fAdd (mBin fMul (mV 4) (mK (.int 30517))) (mBin fMul (mBin fMul (mK (.int 8273)) (mV 1)) (mV 1))) (mK (.int 1747))) mNil)) (mK (.int 2305843009213693921))) (mCons (mK (.int 0)) mNil)))))))
def d__law_pot : DM := mFnK 5 m__law_pot
theorem sc__law_pot : FnScope ["script", "place", "cell", "own", "small"] ["script", "place"] (defScope (top 75)) := ⟨rfl, rfl, rfl, by decide +kernel, rfl, by decide +kernel, by decide +kernel⟩
theorem ok__law_pot (T : Fx K mg) : HasT P w K mg base 1 75 "_law_pot" ["script", "place"] d__law_pot := by
  obtain ⟨f, fd, F, hm⟩ := T.f__law_pot
  refine ⟨f, fd, F, hm, runsK (N := ["script", "place", "cell", "own", "small"]) (m := m__law_pot) F sc__law_pot fun cdv A outer s H hr hg => ?_⟩
  have ft : Fit (cxOf CX0 P w K mg base ["script", "place", "cell", "own", "small"] "_law_pot" (defScope (top 75)) f cdv A outer s H E0).nox 0 := ⟨hr, hg⟩
  have hN : (cxOf CX0 P w K mg base ["script", "place", "cell", "own", "small"] "_law_pot" (defScope (top 75)) f cdv A outer s H E0).nox.N.Nodup := (sc__law_pot).nd
  exact (ssm_cons (sm_set (i := 2) hN rfl (Or.inl rfl) (em_ifExp (t_cmp (c_lt) (x_v 1) (x_blt (b_len T.b_len) (am_cons (x_v 0) am_nil)) (by rfl)) (em_ix (x_v 0) (x_v 1) (by intro _ _; rfl)) (x_add (x_add (x_mod (x_blt (b_sum T.b_sum) (am_cons (em_sl (x_v 0) om_none (om_some x_int)) am_nil)) x_int) (x_mul x_int (x_v 1))) x_int)))
    (ssm_cons (sm_set (i := 3) hN rfl (Or.inl rfl) (x_mul (x_mod (x_blt (b_int T.b_int) (am_cons (x_blt (b_abs T.b_abs) (am_cons (x_v 2) am_nil)) am_nil)) (x_pow (x_pow x_int x_int) x_int)) (x_blt (b_int T.b_int) (am_cons (x_cmp (c_ge) (x_blt (b_abs T.b_abs) (am_cons (x_v 2) am_nil)) (x_pow x_int x_int) (by rfl)) am_nil))))
    (ssm_cons (sm_set (i := 4) hN rfl (Or.inl rfl) (x_mod (x_blt (b_int T.b_int) (am_cons (x_v 2) am_nil)) x_int))
    (ssm_one (sm_ret (em_cell (am_cons (x_v 3) (am_cons (x_mod (x_blt (b_int T.b_int) (am_cons (x_add (x_add (x_mul (x_v 4) x_int) (x_mul (x_mul x_int (x_v 1)) (x_v 1))) x_int) am_nil)) x_int) (am_cons x_int am_nil)))))))))
def m_is_ascending : SM :=
  mRet (mCall fAll (mCons (mComp (mZip (mCons (mV 0) (mCons (mSl (mV 0) (mPart (mK (.int 1))) (mNoPart)) mNil))) (bTup [1, 2]) (mYes) (mBin fLtA (mV 1) (mV 2)) [1, 2]) mNil))
def d_is_ascending : DM := mFnT 3 m_is_ascending
theorem sc_is_ascending : FnScope ["value", "one", "other"] ["value"] (defScope (top 12)) := ⟨rfl, rfl, rfl, by decide +kernel, rfl, by decide +kernel, by decide +kernel⟩
theorem ok_is_ascending (T : Fx K mg) : HasT P w K mg base 1 12 "is_ascending" ["value"] d_is_ascending := by
  obtain ⟨f, fd, F, hm⟩ := T.f_is_ascending
  refine ⟨f, fd, F, hm, runsT (N := ["value", "one", "other"]) (m := m_is_ascending) F sc_is_ascending fun cdv A outer s H hr hg => ?_⟩
  have ft : Fit (cxOf CX0 P w K mg base ["value", "one", "other"] "is_ascending" (defScope (top 12)) f cdv A outer s H E0).nox 0 := ⟨hr, hg⟩
  have hN : (cxOf CX0 P w K mg base ["value", "one", "other"] "is_ascending" (defScope (top 12)) f cdv A outer s H E0).nox.N.Nodup := (sc_is_ascending).nd
  exact (ssm_one (sm_ret (x_blt (b_all T.b_all) (am_cons (em_comp rfl hN (im_zip (by rfl) T.b_zip (am_cons (x_v 0) (am_cons (em_sl (x_v 0) (om_some x_int) om_none) am_nil))) ⟨blkOk_by (own := [("one", 1), ("other", 2)]) (by first | decide +kernel | rfl), (fun _ _ _ _ _ => gw_tup rfl (gsw_cons (by decide) hN rfl (Or.inl rfl) (gsw_cons (by decide) hN rfl (Or.inl rfl) gsw_nil))), (fun _ _ _ _ _ => tsm_nil), (fun _ _ _ _ _ => (x_cmp (c_ltA ft.blk) (x_v 1) (x_v 2) (by rfl)))⟩) am_nil))))
def m_are_signs : SM :=
  mRet (mAndV (mCall fIsi (mCons (mV 0) (mCons (mK (.ty "str")) mNil))) (mCall fAll (mCons (mCompN 0 (bName 1) (mYes) (mBin fInA (mV 1) (mK (txt [97, 98, 99, 100, 101, 102, 103, 104, 105, 106, 107, 108, 109, 110, 111, 112, 113, 114, 115, 116, 117, 118, 119, 120, 121, 122]))) [1]) mNil)))
def d_are_signs : DM := mFnT 2 m_are_signs
theorem sc_are_signs : FnScope ["value", "sign"] ["value"] (defScope (top 13)) := ⟨rfl, rfl, rfl, by decide +kernel, rfl, by decide +kernel, by decide +kernel⟩
theorem ok_are_signs (T : Fx K mg) : HasT P w K mg base 1 13 "are_signs" ["value"] d_are_signs := by
  obtain ⟨f, fd, F, hm⟩ := T.f_are_signs
  refine ⟨f, fd, F, hm, runsT (N := ["value", "sign"]) (m := m_are_signs) F sc_are_signs fun cdv A outer s H hr hg => ?_⟩
  have ft : Fit (cxOf CX0 P w K mg base ["value", "sign"] "are_signs" (defScope (top 13)) f cdv A outer s H E0).nox 0 := ⟨hr, hg⟩
  have hN : (cxOf CX0 P w K mg base ["value", "sign"] "are_signs" (defScope (top 13)) f cdv A outer s H E0).nox.N.Nodup := (sc_are_signs).nd
  exact (ssm_one (sm_ret (em_and (x_blt (b_isinstance T.b_isinstance) (am_cons (x_v 0) (am_cons (x_ty T.b_str) am_nil))) (em_one (x_blt (b_all T.b_all) (am_cons (em_compN 0 rfl hN ⟨blkOk_by (own := [("sign", 1)]) (by first | decide +kernel | rfl), (fun _ _ _ _ _ => gw_name (by decide) hN rfl (Or.inl rfl)), (fun _ _ _ _ _ => tsm_nil), (fun _ _ _ _ _ => (x_cmp (c_inA ft.blk) (x_v 1) (x_gSL (l := [97, 98, 99, 100, 101, 102, 103, 104, 105, 106, 107, 108, 109, 110, 111, 112, 113, 114, 115, 116, 117, 118, 119, 120, 121, 122]) (T.g_SIGNS).choose_spec) (by rfl)))⟩) am_nil))))))
def m_is_signs : SM :=
  mRet (mAndV (mCall fIsi (mCons (mV 0) (mCons (mK (.ty "str")) mNil))) (mAndV (mChain fLeA fLeA (mV 1) (mCall fLenA (mCons (mV 0) mNil)) (mV 2)) (mApp 1 (mCons (mV 0) mNil) (shutM d_are_signs))))
def d_is_signs : DM := mFnT 3 m_is_signs
theorem sc_is_signs : FnScope ["value", "low", "high"] ["value", "low", "high"] (defScope (top 14)) := ⟨rfl, rfl, rfl, by decide +kernel, rfl, by decide +kernel, by decide +kernel⟩
theorem ok_is_signs (T : Fx K mg) (h_are_signs : HasT P w K mg base 1 13 "are_signs" ["value"] d_are_signs) : HasT P w K mg base 2 14 "is_signs" ["value", "low", "high"] d_is_signs := by
  obtain ⟨f, fd, F, hm⟩ := T.f_is_signs
  refine ⟨f, fd, F, hm, runsT (N := ["value", "low", "high"]) (m := m_is_signs) F sc_is_signs fun cdv A outer s H hr hg => ?_⟩
  have ft : Fit (cxOf CX0 P w K mg base ["value", "low", "high"] "is_signs" (defScope (top 14)) f cdv A outer s H E0).nox 1 := ⟨hr, hg⟩
  have hN : (cxOf CX0 P w K mg base ["value", "low", "high"] "is_signs" (defScope (top 14)) f cdv A outer s H E0).nox.N.Nodup := (sc_is_signs).nd
  exact (ssm_one (sm_ret (em_and (x_blt (b_isinstance T.b_isinstance) (am_cons (x_v 0) (am_cons (x_ty T.b_str) am_nil))) (em_and (x_chain (c_leA ft) (c_leA ft) (x_v 1) (x_blt (b_lenA T.b_len) (am_cons (x_v 0) am_nil)) (x_v 2) (by rfl)) (em_one (em_call (x := "are_signs") (params := defArgs (top 13)) (body := defBody (top 13)) (scope := defScope (top 13)) (ps := ["value"]) (Has.shut h_are_signs) ft (by first | decide | omega) (by rfl) (fun _ _ _ _ _ _ us hl => match us, hl with | [_], _ => rfl) (am_cons (x_v 0) am_nil)))))))
def m_is_code_of : SM :=
  mSeq (mIfS (mOr (mNot (mBool (mCall fIsi (mCons (mV 0) (mCons (mK (.ty "tuple")) mNil))))) (mNot (mBool (mChain fLeA fLeA (mK (.int 1)) (mCall fLenA (mCons (mV 0) mNil)) (mK (.int 16)))))) (mRet (mK (.bl false))) (mNext))
  (mRet (mAndV (mCall fAll (mCons (mCompN 0 (bName 1) (mYes) (mApp 3 (mCons (mV 1) (mCons (mK (.int 1)) (mCons (mK (.int 8)) mNil))) (shutM d_is_signs)) [1]) mNil)) (mApp 1 (mCons (mV 0) mNil) (shutM d_is_ascending))))
def d_is_code_of : DM := mFnT 2 m_is_code_of
theorem sc_is_code_of : FnScope ["value", "row"] ["value"] (defScope (top 21)) := ⟨rfl, rfl, rfl, by decide +kernel, rfl, by decide +kernel, by decide +kernel⟩
theorem ok_is_code_of (T : Fx K mg) (h_is_ascending : HasT P w K mg base 1 12 "is_ascending" ["value"] d_is_ascending) (h_is_signs : HasT P w K mg base 2 14 "is_signs" ["value", "low", "high"] d_is_signs) : HasT P w K mg base 3 21 "is_code_of" ["value"] d_is_code_of := by
  obtain ⟨f, fd, F, hm⟩ := T.f_is_code_of
  refine ⟨f, fd, F, hm, runsT (N := ["value", "row"]) (m := m_is_code_of) F sc_is_code_of fun cdv A outer s H hr hg => ?_⟩
  have ft : Fit (cxOf CX0 P w K mg base ["value", "row"] "is_code_of" (defScope (top 21)) f cdv A outer s H E0).nox 2 := ⟨hr, hg⟩
  have hN : (cxOf CX0 P w K mg base ["value", "row"] "is_code_of" (defScope (top 21)) f cdv A outer s H E0).nox.N.Nodup := (sc_is_code_of).nd
  exact (ssm_cons (sm_if (tm_w (wm_or (tm_not (tm_val (x_blt (b_isinstance T.b_isinstance) (am_cons (x_v 0) (am_cons (x_ty T.b_tuple) am_nil))))) (wm_or1 (tm_not (t_chain (c_leA ft) (c_leA ft) x_int (x_blt (b_lenA T.b_len) (am_cons (x_v 0) am_nil)) (x_gI (T.g_MOST_ENTRIES).choose_spec) (by rfl)))))) (ssm_one (sm_ret x_bool)) ssm_nil)
    (ssm_one (sm_ret (em_and (x_blt (b_all T.b_all) (am_cons (em_compN 0 rfl hN ⟨blkOk_by (own := [("row", 1)]) (by first | decide +kernel | rfl), (fun _ _ _ _ _ => gw_name (by decide) hN rfl (Or.inl rfl)), (fun _ _ _ _ _ => tsm_nil), (fun _ _ _ _ _ => (em_call (x := "is_signs") (params := defArgs (top 14)) (body := defBody (top 14)) (scope := defScope (top 14)) (ps := ["value", "low", "high"]) (Has.shut h_is_signs) ft.blk (by first | decide | omega) (by rfl) (fun _ _ _ _ _ _ us hl => match us, hl with | [_, _, _], _ => rfl) (am_cons (x_v 1) (am_cons x_int (am_cons (x_gI (T.g_MOST_OUTLINE).choose_spec) am_nil)))))⟩) am_nil)) (em_one (em_call (x := "is_ascending") (params := defArgs (top 12)) (body := defBody (top 12)) (scope := defScope (top 12)) (ps := ["value"]) (Has.shut h_is_ascending) ft (by first | decide | omega) (by rfl) (fun _ _ _ _ _ _ us hl => match us, hl with | [_], _ => rfl) (am_cons (x_v 0) am_nil)))))))
def m_check_code : SM :=
  mSeq (mIfS (mNot (mBool (mApp 1 (mCons (mV 0) mNil) (shutM d_is_code_of)))) (mNever) (mNext))
  (mRet (mV 0))
def d_check_code : DM := mFnT 1 m_check_code
theorem sc_check_code : FnScope ["value"] ["value"] (defScope (top 23)) := ⟨rfl, rfl, rfl, by decide +kernel, rfl, by decide +kernel, by decide +kernel⟩
theorem ok_check_code (T : Fx K mg) (h_is_code_of : HasT P w K mg base 3 21 "is_code_of" ["value"] d_is_code_of) : HasT P w K mg base 4 23 "check_code" ["value"] d_check_code := by
  obtain ⟨f, fd, F, hm⟩ := T.f_check_code
  refine ⟨f, fd, F, hm, runsT (N := ["value"]) (m := m_check_code) F sc_check_code fun cdv A outer s H hr hg => ?_⟩
  have ft : Fit (cxOf CX0 P w K mg base ["value"] "check_code" (defScope (top 23)) f cdv A outer s H E0).nox 3 := ⟨hr, hg⟩
  have hN : (cxOf CX0 P w K mg base ["value"] "check_code" (defScope (top 23)) f cdv A outer s H E0).nox.N.Nodup := (sc_check_code).nd
  exact (ssm_cons (sm_if (tm_not (tm_val (em_call (x := "is_code_of") (params := defArgs (top 21)) (body := defBody (top 21)) (scope := defScope (top 21)) (ps := ["value"]) (Has.shut h_is_code_of) ft (by first | decide | omega) (by rfl) (fun _ _ _ _ _ _ us hl => match us, hl with | [_], _ => rfl) (am_cons (x_v 0) am_nil)))) (ssm_one sm_never) ssm_nil)
    (ssm_one (sm_ret (x_v 0))))
def m_plain_dictionary : SM :=
  mSeq (mExpr (mApp 1 (mCons (mV 0) mNil) (shutM d_check_code)))
  (mRet (mCall fTuple (mCons (mCompN 0 (bName 1) (mYes) (mTup (mCons (mV 1) (mCons (mV 1) mNil))) [1]) mNil)))
def d_plain_dictionary : DM := mFnT 2 m_plain_dictionary
theorem sc_plain_dictionary : FnScope ["code", "row"] ["code"] (defScope (top 25)) := ⟨rfl, rfl, rfl, by decide +kernel, rfl, by decide +kernel, by decide +kernel⟩
theorem ok_plain_dictionary (T : Fx K mg) (h_check_code : HasT P w K mg base 4 23 "check_code" ["value"] d_check_code) : HasT P w K mg base 5 25 "plain_dictionary" ["code"] d_plain_dictionary := by
  obtain ⟨f, fd, F, hm⟩ := T.f_plain_dictionary
  refine ⟨f, fd, F, hm, runsT (N := ["code", "row"]) (m := m_plain_dictionary) F sc_plain_dictionary fun cdv A outer s H hr hg => ?_⟩
  have ft : Fit (cxOf CX0 P w K mg base ["code", "row"] "plain_dictionary" (defScope (top 25)) f cdv A outer s H E0).nox 4 := ⟨hr, hg⟩
  have hN : (cxOf CX0 P w K mg base ["code", "row"] "plain_dictionary" (defScope (top 25)) f cdv A outer s H E0).nox.N.Nodup := (sc_plain_dictionary).nd
  exact (ssm_cons (sm_expr (em_call (x := "check_code") (params := defArgs (top 23)) (body := defBody (top 23)) (scope := defScope (top 23)) (ps := ["value"]) (Has.shut h_check_code) ft (by first | decide | omega) (by rfl) (fun _ _ _ _ _ _ us hl => match us, hl with | [_], _ => rfl) (am_cons (x_v 0) am_nil)))
    (ssm_one (sm_ret (x_blt (b_tuple T.b_tuple) (am_cons (em_compN 0 rfl hN ⟨blkOk_by (own := [("row", 1)]) (by first | decide +kernel | rfl), (fun _ _ _ _ _ => gw_name (by decide) hN rfl (Or.inl rfl)), (fun _ _ _ _ _ => tsm_nil), (fun _ _ _ _ _ => (em_tup (am_cons (x_v 1) (am_cons (x_v 1) am_nil))))⟩) am_nil)))))
def m__law_take : SM :=
  mSeq (mIfS (mBool (mBin fGt (mBin fIx (mV 0) (mK (.int 0))) (mK (.int 0)))) (mSeq (mSet 2 (mBin fMod (mCall fInt (mCons (mBin fIx (mV 0) (mK (.int 0))) mNil)) (mV 1)))
  (mSeq (mAsg (mBin fDiv (mBin fIx (mV 0) (mK (.int 0))) (mV 1)) (mSub (mV 0) (mK (.int 0))))
  (mRet (mV 2)))) (mNext))
  (mSeq (mAsg (mBin fAdd (mBin fIx (mV 0) (mK (.int 2))) (mK (.int 1))) (mSub (mV 0) (mK (.int 2))))
  (mSeq (mSet 3 (mBin fIx (mLst (mCons (mK (.int 2147480197)) (mCons (mK (.int 2147480161)) (mCons (mK (.int 2147480143)) (mCons (mK (.int 2147480131)) (mCons (mK (.int 2147480071)) mNil)))))) (mBin fMod (mCall fInt (mCons (mBin fIx (mV 0) (mK (.int 2))) mNil)) (mK (.int 5)))))
  (mSeq (mSet 4 (mBin fMod (mCall fInt (mCons (mBin fPow (mCall fInt (mCons (mBin fAdd (mBin fAdd (mBin fIx (mV 0) (mK (.int 1))) (mBin fMul (mBin fMul (mK (.int 41047)) (mBin fIx (mV 0) (mK (.int 2)))) (mBin fIx (mV 0) (mK (.int 2))))) (mK (.int 2351))) mNil)) (mK (.int 3))) mNil)) (mV 3)))
  (mSeq (mSet 4 (mBin fMod (mCall fInt (mCons (mBin fMul (mV 4) (mBin fAdd (mBin fMod (mCall fInt (mCons (mV 4) mNil)) (mK (.int 7477))) (mBin fMul (mK (.int 421)) (mBin fIx (mV 0) (mK (.int 2)))))) mNil)) (mK (.int 2305843009213693907))))
  (mRet (mBin fMod (mCall fInt (mCons (mBin fDiv (mV 4) (mK (.int 163))) mNil)) (mV 1)))))))
def d__law_take : DM := mFnT 5 m__law_take
theorem sc__law_take : FnScope ["pot", "upto", "digit", "prime", "blend"] ["pot", "upto"] (defScope (top 76)) := ⟨rfl, rfl, rfl, by decide +kernel, rfl, by decide +kernel, by decide +kernel⟩
theorem ok__law_take (T : Fx K mg) : HasT P w K mg base 1 76 "_law_take" ["pot", "upto"] d__law_take := by
  obtain ⟨f, fd, F, hm⟩ := T.f__law_take
  refine ⟨f, fd, F, hm, runsT (N := ["pot", "upto", "digit", "prime", "blend"]) (m := m__law_take) F sc__law_take fun cdv A outer s H hr hg => ?_⟩
  have ft : Fit (cxOf CX0 P w K mg base ["pot", "upto", "digit", "prime", "blend"] "_law_take" (defScope (top 76)) f cdv A outer s H E0).nox 0 := ⟨hr, hg⟩
  have hN : (cxOf CX0 P w K mg base ["pot", "upto", "digit", "prime", "blend"] "_law_take" (defScope (top 76)) f cdv A outer s H E0).nox.N.Nodup := (sc__law_take).nd
  exact (ssm_cons (sm_if (t_cmp (c_gt) (em_ix (x_v 0) x_int (by intro _ _; rfl)) x_int (by rfl)) (ssm_cons (sm_set (i := 2) hN rfl (Or.inl rfl) (x_mod (x_blt (b_int T.b_int) (am_cons (em_ix (x_v 0) x_int (by intro _ _; rfl)) am_nil)) (x_v 1)))
    (ssm_cons (sm_asg (x_div (em_ix (x_v 0) x_int (by intro _ _; rfl)) (x_v 1)) (gm_sub (x_v 0) x_int))
    (ssm_one (sm_ret (x_v 2))))) ssm_nil)
    (ssm_cons (sm_asg (x_add (em_ix (x_v 0) x_int (by intro _ _; rfl)) x_int) (gm_sub (x_v 0) x_int))
    (ssm_cons (sm_set (i := 3) hN rfl (Or.inl rfl) (em_ix (em_lst (am_cons x_int (am_cons x_int (am_cons x_int (am_cons x_int (am_cons x_int am_nil)))))) (x_mod (x_blt (b_int T.b_int) (am_cons (em_ix (x_v 0) x_int (by intro _ _; rfl)) am_nil)) x_int) (by intro _ _; rfl)))
    (ssm_cons (sm_set (i := 4) hN rfl (Or.inl rfl) (x_mod (x_blt (b_int T.b_int) (am_cons (x_pow (x_blt (b_int T.b_int) (am_cons (x_add (x_add (em_ix (x_v 0) x_int (by intro _ _; rfl)) (x_mul (x_mul x_int (em_ix (x_v 0) x_int (by intro _ _; rfl))) (em_ix (x_v 0) x_int (by intro _ _; rfl)))) x_int) am_nil)) x_int) am_nil)) (x_v 3)))
    (ssm_cons (sm_set (i := 4) hN rfl (Or.inl rfl) (x_mod (x_blt (b_int T.b_int) (am_cons (x_mul (x_v 4) (x_add (x_mod (x_blt (b_int T.b_int) (am_cons (x_v 4) am_nil)) x_int) (x_mul x_int (em_ix (x_v 0) x_int (by intro _ _; rfl))))) am_nil)) x_int))
    (ssm_one (sm_ret (x_mod (x_blt (b_int T.b_int) (am_cons (x_div (x_v 4) x_int) am_nil)) (x_v 1)))))))))
def m_begins_by : SM :=
  mSeq (mSet 1 (mCell (mNil)))
  (mSeq (mFor (mEnumA (mCons (mV 0) mNil)) ((mTupN [mName 2, mTupG [3, 4]])) (mFor (mEnumA (mCons (mV 0) mNil)) ((mTupN [mName 5, mTupG [6, 7]])) (mIfS (mAnd (mBool (mBin fNeA (mV 2) (mV 5))) (mBool (mStrM fStarts (mV 6) (mCons (mV 3) mNil)))) (mExpr (mCellM fAppendF (mV 1) (mCons (mTup (mCons (mSl (mV 6) (mPart (mCall fLenA (mCons (mV 3) mNil))) (mNoPart)) (mCons (mV 2) (mCons (mV 5) mNil)))) mNil))) (mNext))))
  (mRet (mV 1)))
def d_begins_by : DM := mFnT 8 m_begins_by
theorem sc_begins_by : FnScope ["dictionary", "found", "one", "outline", "text", "other", "longer", "its"] ["dictionary"] (defScope (top 47)) := ⟨rfl, rfl, rfl, by decide +kernel, rfl, by decide +kernel, by decide +kernel⟩
theorem ok_begins_by (T : Fx K mg) : HasT P w K mg base 1 47 "begins_by" ["dictionary"] d_begins_by := by
  obtain ⟨f, fd, F, hm⟩ := T.f_begins_by
  refine ⟨f, fd, F, hm, runsT (N := ["dictionary", "found", "one", "outline", "text", "other", "longer", "its"]) (m := m_begins_by) F sc_begins_by fun cdv A outer s H hr hg => ?_⟩
  have ft : Fit (cxOf CX0 P w K mg base ["dictionary", "found", "one", "outline", "text", "other", "longer", "its"] "begins_by" (defScope (top 47)) f cdv A outer s H E0).nox 0 := ⟨hr, hg⟩
  have hN : (cxOf CX0 P w K mg base ["dictionary", "found", "one", "outline", "text", "other", "longer", "its"] "begins_by" (defScope (top 47)) f cdv A outer s H E0).nox.N.Nodup := (sc_begins_by).nd
  exact (ssm_cons (sm_set (i := 1) hN rfl (Or.inl rfl) (em_cell am_nil))
    (ssm_cons (sm_for PassesOwn.never rfl (im_enumA (by rfl) T.b_enumerate (am_cons (x_v 0) am_nil)) (gm_tupN rfl (gN_cons (gm_name hN rfl (Or.inl rfl)) (gN_cons (gm_tup rfl (gsm_cons hN rfl (Or.inl rfl) (gsm_cons hN rfl (Or.inl rfl) gsm_nil))) gN_nil))) (ssm_one (sm_for PassesOwn.never rfl (im_enumA (by rfl) T.b_enumerate (am_cons (x_v 0) am_nil)) (gm_tupN rfl (gN_cons (gm_name hN rfl (Or.inl rfl)) (gN_cons (gm_tup rfl (gsm_cons hN rfl (Or.inl rfl) (gsm_cons hN rfl (Or.inl rfl) gsm_nil))) gN_nil))) (ssm_one (sm_if (tm_w (wm_and (t_cmp (c_neA ft) (x_v 2) (x_v 5) (by rfl)) (wm_and1 (tm_val (em_starts (x_v 6) (am_cons (x_v 3) am_nil)))))) (ssm_one (sm_expr (em_appendF (x_v 1) (am_cons (em_tup (am_cons (em_sl (x_v 6) (om_some (x_blt (b_lenA T.b_len) (am_cons (x_v 3) am_nil))) om_none) (am_cons (x_v 2) (am_cons (x_v 5) am_nil)))) am_nil)))) ssm_nil)))))
    (ssm_one (sm_ret (x_v 1)))))
def m_step_by : SM :=
  mSeq (mIfS (mBool (mStrM fStarts (mV 0) (mCons (mV 1) mNil))) (mRet (mSl (mV 0) (mPart (mCall fLenA (mCons (mV 1) mNil))) (mNoPart))) (mNext))
  (mRet (mIf (mBool (mStrM fStarts (mV 1) (mCons (mV 0) mNil))) (mSl (mV 1) (mPart (mCall fLenA (mCons (mV 0) mNil))) (mNoPart)) (mK .non)))
def d_step_by : DM := mFnT 2 m_step_by
theorem sc_step_by : FnScope ["residue", "row"] ["residue", "row"] (defScope (top 29)) := ⟨rfl, rfl, rfl, by decide +kernel, rfl, by decide +kernel, by decide +kernel⟩
theorem ok_step_by (T : Fx K mg) : HasT P w K mg base 1 29 "step_by" ["residue", "row"] d_step_by := by
  obtain ⟨f, fd, F, hm⟩ := T.f_step_by
  refine ⟨f, fd, F, hm, runsT (N := ["residue", "row"]) (m := m_step_by) F sc_step_by fun cdv A outer s H hr hg => ?_⟩
  have ft : Fit (cxOf CX0 P w K mg base ["residue", "row"] "step_by" (defScope (top 29)) f cdv A outer s H E0).nox 0 := ⟨hr, hg⟩
  have hN : (cxOf CX0 P w K mg base ["residue", "row"] "step_by" (defScope (top 29)) f cdv A outer s H E0).nox.N.Nodup := (sc_step_by).nd
  exact (ssm_cons (sm_if (tm_val (em_starts (x_v 0) (am_cons (x_v 1) am_nil))) (ssm_one (sm_ret (em_sl (x_v 0) (om_some (x_blt (b_lenA T.b_len) (am_cons (x_v 1) am_nil))) om_none))) ssm_nil)
    (ssm_one (sm_ret (em_ifExp (tm_val (em_starts (x_v 1) (am_cons (x_v 0) am_nil))) (em_sl (x_v 1) (om_some (x_blt (b_lenA T.b_len) (am_cons (x_v 0) am_nil))) om_none) x_none))))
def m_steps_of : SM :=
  mSeq (mIfS (mBool (mBin fEqA (mV 1) (mK (txt [])))) (mRet (mLst (mNil))) (mNext))
  (mSeq (mSet 2 (mComp (mIter (mV 0)) (bName 3) (mYes) (mApp 2 (mCons (mV 1) (mCons (mV 3) mNil)) (shutM d_step_by)) [3]))
  (mRet (mUn fSortedSet (mCompN 2 (bName 4) (mBool (mBin fIsNot (mV 4) (mK .non))) (mV 4) [4]))))
def d_steps_of : DM := mFnT 5 m_steps_of
theorem sc_steps_of : FnScope ["code", "residue", "found", "row", "one"] ["code", "residue"] (defScope (top 30)) := ⟨rfl, rfl, rfl, by decide +kernel, rfl, by decide +kernel, by decide +kernel⟩
theorem ok_steps_of (T : Fx K mg) (h_step_by : HasT P w K mg base 1 29 "step_by" ["residue", "row"] d_step_by) : HasT P w K mg base 2 30 "steps_of" ["code", "residue"] d_steps_of := by
  obtain ⟨f, fd, F, hm⟩ := T.f_steps_of
  refine ⟨f, fd, F, hm, runsT (N := ["code", "residue", "found", "row", "one"]) (m := m_steps_of) F sc_steps_of fun cdv A outer s H hr hg => ?_⟩
  have ft : Fit (cxOf CX0 P w K mg base ["code", "residue", "found", "row", "one"] "steps_of" (defScope (top 30)) f cdv A outer s H E0).nox 1 := ⟨hr, hg⟩
  have hN : (cxOf CX0 P w K mg base ["code", "residue", "found", "row", "one"] "steps_of" (defScope (top 30)) f cdv A outer s H E0).nox.N.Nodup := (sc_steps_of).nd
  exact (ssm_cons (sm_if (t_cmp (c_eqA ft) (x_v 1) (x_strL (l := [])) (by rfl)) (ssm_one (sm_ret (em_lst am_nil))) ssm_nil)
    (ssm_cons (sm_comp (i := 2) rfl hN rfl rfl (im_any (x_v 0)) ⟨blkOk_by (own := [("row", 3)]) (by first | decide +kernel | rfl), (fun _ _ _ _ _ => gw_name (by decide) hN rfl (Or.inl rfl)), (fun _ _ _ _ _ => tsm_nil), (fun _ _ _ _ _ => (em_call (x := "step_by") (params := defArgs (top 29)) (body := defBody (top 29)) (scope := defScope (top 29)) (ps := ["residue", "row"]) (Has.shut h_step_by) ft.blk (by first | decide | omega) (by rfl) (fun _ _ _ _ _ _ us hl => match us, hl with | [_, _], _ => rfl) (am_cons (x_v 1) (am_cons (x_v 3) am_nil))))⟩ (sw_true rfl rfl rfl (by decide +kernel)))
    (ssm_one (sm_ret (em_sortedSet ft rfl (by rfl) T.b_sorted (by rfl) T.b_set (em_compN 2 rfl hN ⟨blkOk_by (own := [("one", 4)]) (by first | decide +kernel | rfl), (fun _ _ _ _ _ => gw_name (by decide) hN rfl (Or.inl rfl)), (fun _ _ _ _ _ => tsm_one (t_cmp (c_isNot) (x_v 4) x_none (by rfl))), (fun _ _ _ _ _ => (x_v 4))⟩))))))
def m_gathered : SM :=
  mSeq (mPar 2 3 (mCons (mCall fDictC (mCons (mCompN 1 (bName 4) (mYes) (mTup (mCons (mV 4) (mCons (mK (.bl true)) mNil))) [4]) mNil)) (mCons (mCall fListC (mCons (mV 1) mNil)) mNil)))
  (mSeq (mWhile (fun _ _ => 100000) (mBool (mBin fNeA (mV 3) (mLst (mNil)))) (mSeq (mSet 5 (mCellM0 fPop0 (mV 3)))
  (mFor (mIter (mApp 2 (mCons (mV 0) (mCons (mV 5) mNil)) (shutM d_steps_of))) (mName 6) (mIfS (mBool (mBin fNotInA (mV 6) (mV 2))) (mSeq (mAsg (mK (.bl true)) (mSubA (mV 2) (mV 6)))
  (mExpr (mCellM fAppendF (mV 3) (mCons (mV 6) mNil)))) (mNext)))))
  (mRet (mCall fSortedC (mCons (mV 2) mNil))))
def d_gathered : DM := mFnT 7 m_gathered
theorem sc_gathered : FnScope ["code", "begins", "found", "waiting", "one", "here", "there"] ["code", "begins"] (defScope (top 31)) := ⟨rfl, rfl, rfl, by decide +kernel, rfl, by decide +kernel, by decide +kernel⟩
theorem ok_gathered (T : Fx K mg) (h_steps_of : HasT P w K mg base 2 30 "steps_of" ["code", "residue"] d_steps_of) : HasT P w K mg base 3 31 "gathered" ["code", "begins"] d_gathered := by
  obtain ⟨f, fd, F, hm⟩ := T.f_gathered
  refine ⟨f, fd, F, hm, runsT (N := ["code", "begins", "found", "waiting", "one", "here", "there"]) (m := m_gathered) F sc_gathered fun cdv A outer s H hr hg => ?_⟩
  have ft : Fit (cxOf CX0 P w K mg base ["code", "begins", "found", "waiting", "one", "here", "there"] "gathered" (defScope (top 31)) f cdv A outer s H E0).nox 2 := ⟨hr, hg⟩
  have hN : (cxOf CX0 P w K mg base ["code", "begins", "found", "waiting", "one", "here", "there"] "gathered" (defScope (top 31)) f cdv A outer s H E0).nox.N.Nodup := (sc_gathered).nd
  exact (ssm_cons (sm_par (i := 2) (j := 3) rfl hN rfl rfl (by decide) rfl rfl (am_cons (x_blt (b_dictC T.b_dict) (am_cons (em_compN 1 rfl hN ⟨blkOk_by (own := [("one", 4)]) (by first | decide +kernel | rfl), (fun _ _ _ _ _ => gw_name (by decide) hN rfl (Or.inl rfl)), (fun _ _ _ _ _ => tsm_nil), (fun _ _ _ _ _ => (em_tup (am_cons (x_v 4) (am_cons x_bool am_nil))))⟩) am_nil)) (am_cons (x_blt (b_listC T.b_list) (am_cons (x_v 1) am_nil)) am_nil)) (by rfl))
    (ssm_cons (sm_while (fun _ _ => 100000) PassesOwn.never (t_cmp (c_neA ft) (x_v 3) (em_lst am_nil) (by rfl)) (ssm_cons (sm_set (i := 5) hN rfl (Or.inl rfl) (em_pop0 (x_v 3)))
    (ssm_one (sm_for PassesOwn.never rfl (im_any (em_call (x := "steps_of") (params := defArgs (top 30)) (body := defBody (top 30)) (scope := defScope (top 30)) (ps := ["code", "residue"]) (Has.shut h_steps_of) ft (by first | decide | omega) (by rfl) (fun _ _ _ _ _ _ us hl => match us, hl with | [_, _], _ => rfl) (am_cons (x_v 0) (am_cons (x_v 5) am_nil)))) (gm_name hN rfl (Or.inl rfl)) (ssm_one (sm_if (t_cmp (c_notInA ft) (x_v 6) (x_v 2) (by rfl)) (ssm_cons (sm_asg x_bool (gm_subA ft (x_v 2) (x_v 6)))
    (ssm_one (sm_expr (em_appendF (x_v 3) (am_cons (x_v 6) am_nil))))) ssm_nil))))))
    (ssm_one (sm_ret (x_blt (b_sortedC ft T.b_sorted) (am_cons (x_v 2) am_nil))))))
def m_endless_of : SM :=
  mSeq (mAsg (mTup (mCons (mApp 2 (mCons (mV 0) (mCons (mV 1) mNil)) (shutM d_gathered)) (mCons (mK (.bl true)) mNil))) (mTupG [2, 3]))
  (mSeq (mWhile (fun _ _ => 100000) (mBool (mV 3)) (mSeq (mSet 4 (mComp (mIter (mV 2)) (bName 5) (mOr (mBool (mBin fEqA (mV 5) (mK (txt [])))) (mBool (mCall fAny (mCons (mComp (mIter (mApp 2 (mCons (mV 0) (mCons (mV 5) mNil)) (shutM d_steps_of))) (bName 6) (mYes) (mBin fInA (mV 6) (mV 2)) [6]) mNil)))) (mV 5) [5]))
  (mAsg (mTup (mCons (mV 4) (mCons (mBin fLtA (mCall fLenA (mCons (mV 4) mNil)) (mCall fLenA (mCons (mV 2) mNil))) mNil))) (mTupG [2, 3]))))
  (mRet (mV 2)))
def d_endless_of : DM := mFnT 7 m_endless_of
theorem sc_endless_of : FnScope ["code", "begins", "left", "is_less", "fine", "one", "there"] ["code", "begins"] (defScope (top 49)) := ⟨rfl, rfl, rfl, by decide +kernel, rfl, by decide +kernel, by decide +kernel⟩
theorem ok_endless_of (T : Fx K mg) (h_gathered : HasT P w K mg base 3 31 "gathered" ["code", "begins"] d_gathered) (h_steps_of : HasT P w K mg base 2 30 "steps_of" ["code", "residue"] d_steps_of) : HasT P w K mg base 4 49 "endless_of" ["code", "begins"] d_endless_of := by
  obtain ⟨f, fd, F, hm⟩ := T.f_endless_of
  refine ⟨f, fd, F, hm, runsT (N := ["code", "begins", "left", "is_less", "fine", "one", "there"]) (m := m_endless_of) F sc_endless_of fun cdv A outer s H hr hg => ?_⟩
  have ft : Fit (cxOf CX0 P w K mg base ["code", "begins", "left", "is_less", "fine", "one", "there"] "endless_of" (defScope (top 49)) f cdv A outer s H E0).nox 3 := ⟨hr, hg⟩
  have hN : (cxOf CX0 P w K mg base ["code", "begins", "left", "is_less", "fine", "one", "there"] "endless_of" (defScope (top 49)) f cdv A outer s H E0).nox.N.Nodup := (sc_endless_of).nd
  exact (ssm_cons (sm_asg (em_tup (am_cons (em_call (x := "gathered") (params := defArgs (top 31)) (body := defBody (top 31)) (scope := defScope (top 31)) (ps := ["code", "begins"]) (Has.shut h_gathered) ft (by first | decide | omega) (by rfl) (fun _ _ _ _ _ _ us hl => match us, hl with | [_, _], _ => rfl) (am_cons (x_v 0) (am_cons (x_v 1) am_nil))) (am_cons x_bool am_nil))) (gm_tup rfl (gsm_cons hN rfl (Or.inr rfl) (gsm_cons hN rfl (Or.inl rfl) gsm_nil))))
    (ssm_cons (sm_while (fun _ _ => 100000) PassesOwn.never (tm_val (x_v 3)) (ssm_cons (sm_comp (i := 4) rfl hN rfl rfl (im_any (x_v 2)) ⟨blkOk_by (own := [("one", 5)]) (by first | decide +kernel | rfl), (fun _ _ _ _ _ => gw_name (by decide) hN rfl (Or.inl rfl)), (fun _ _ _ _ _ => tsm_one (tm_w (wm_or (t_cmp (c_eqA ft.blk) (x_v 5) (x_strL (l := [])) (by rfl)) (wm_or1 (tm_val (x_blt (b_any T.b_any) (am_cons (em_comp rfl hN (im_any (em_call (x := "steps_of") (params := defArgs (top 30)) (body := defBody (top 30)) (scope := defScope (top 30)) (ps := ["code", "residue"]) (Has.shut h_steps_of) ft.blk (by first | decide | omega) (by rfl) (fun _ _ _ _ _ _ us hl => match us, hl with | [_, _], _ => rfl) (am_cons (x_v 0) (am_cons (x_v 5) am_nil)))) ⟨blkOk_by (own := [("there", 6)]) (by first | decide +kernel | rfl), (fun _ _ _ _ _ => gw_name (by decide) hN rfl (Or.inl rfl)), (fun _ _ _ _ _ => tsm_nil), (fun _ _ _ _ _ => (x_cmp (c_inA ft.blk.blk) (x_v 6) (x_v 2) (by rfl)))⟩) am_nil))))))), (fun _ _ _ _ _ => (x_v 5))⟩ (sw_true rfl rfl rfl (by decide +kernel)))
    (ssm_one (sm_asg (em_tup (am_cons (x_v 4) (am_cons (x_cmp (c_ltA ft) (x_blt (b_lenA T.b_len) (am_cons (x_v 4) am_nil)) (x_blt (b_lenA T.b_len) (am_cons (x_v 2) am_nil)) (by rfl)) am_nil))) (gm_tup rfl (gsm_cons hN rfl (Or.inr rfl) (gsm_cons hN rfl (Or.inl rfl) gsm_nil)))))))
    (ssm_one (sm_ret (x_v 2)))))
def m_code_by : SM :=
  mRet (mCall fTuple (mCons (mUn fSortedSet (mCompN 0 (bTup [1, 2]) (mYes) (mV 1) [1, 2])) mNil))
def d_code_by : DM := mFnT 3 m_code_by
theorem sc_code_by : FnScope ["dictionary", "outline", "text"] ["dictionary"] (defScope (top 24)) := ⟨rfl, rfl, rfl, by decide +kernel, rfl, by decide +kernel, by decide +kernel⟩
theorem ok_code_by (T : Fx K mg) : HasT P w K mg base 1 24 "code_by" ["dictionary"] d_code_by := by
  obtain ⟨f, fd, F, hm⟩ := T.f_code_by
  refine ⟨f, fd, F, hm, runsT (N := ["dictionary", "outline", "text"]) (m := m_code_by) F sc_code_by fun cdv A outer s H hr hg => ?_⟩
  have ft : Fit (cxOf CX0 P w K mg base ["dictionary", "outline", "text"] "code_by" (defScope (top 24)) f cdv A outer s H E0).nox 0 := ⟨hr, hg⟩
  have hN : (cxOf CX0 P w K mg base ["dictionary", "outline", "text"] "code_by" (defScope (top 24)) f cdv A outer s H E0).nox.N.Nodup := (sc_code_by).nd
  exact (ssm_one (sm_ret (x_blt (b_tuple T.b_tuple) (am_cons (em_sortedSet ft rfl (by rfl) T.b_sorted (by rfl) T.b_set (em_compN 0 rfl hN ⟨blkOk_by (own := [("outline", 1), ("text", 2)]) (by first | decide +kernel | rfl), (fun _ _ _ _ _ => gw_tup rfl (gsw_cons (by decide) hN rfl (Or.inl rfl) (gsw_cons (by decide) hN rfl (Or.inl rfl) gsw_nil))), (fun _ _ _ _ _ => tsm_nil), (fun _ _ _ _ _ => (x_v 1))⟩)) am_nil))))
def m_way_to : SM :=
  mSeq (mPar 3 4 (mCons (mDispC (mPair1 (mV 1) (mTup (mNil)) (mPair0))) (mCons (mCell (mCons (mV 1) mNil)) mNil)))
  (mSeq (mWhile (fun _ _ => 100000) (mBool (mBin fNeA (mV 4) (mLst (mNil)))) (mSeq (mSet 5 (mCellM fPopAt (mV 4) (mCons (mK (.int 0)) mNil)))
  (mSeq (mIfS (mBool (mBin fInA (mV 5) (mV 2))) (mRet (mBin fIxA (mV 3) (mV 5))) (mNext))
  (mFor (mEnumA (mCons (mV 0) mNil)) ((mTupN [mName 6, mTupG [7, 8]])) (mSeq (mSet 9 (mApp 2 (mCons (mV 5) (mCons (mV 7) mNil)) (shutM d_step_by)))
  (mIfS (mAnd (mBool (mBin fIsNot (mV 9) (mK .non))) (mBool (mBin fNotInA (mV 9) (mV 3)))) (mSeq (mAsg (mTup (mStarA (mBin fIxA (mV 3) (mV 5)) (mCons (mV 6) mNil))) (mSubA (mV 3) (mV 9)))
  (mExpr (mCellM fAppendF (mV 4) (mCons (mV 9) mNil)))) (mNext)))))))
  (mRet (mK .non)))
def d_way_to : DM := mFnT 10 m_way_to
theorem sc_way_to : FnScope ["dictionary", "residue", "there", "found", "waiting", "here", "place", "outline", "text", "later"] ["dictionary", "residue", "there"] (defScope (top 51)) := ⟨rfl, rfl, rfl, by decide +kernel, rfl, by decide +kernel, by decide +kernel⟩
theorem ok_way_to (T : Fx K mg) (h_step_by : HasT P w K mg base 1 29 "step_by" ["residue", "row"] d_step_by) : HasT P w K mg base 2 51 "way_to" ["dictionary", "residue", "there"] d_way_to := by
  obtain ⟨f, fd, F, hm⟩ := T.f_way_to
  refine ⟨f, fd, F, hm, runsT (N := ["dictionary", "residue", "there", "found", "waiting", "here", "place", "outline", "text", "later"]) (m := m_way_to) F sc_way_to fun cdv A outer s H hr hg => ?_⟩
  have ft : Fit (cxOf CX0 P w K mg base ["dictionary", "residue", "there", "found", "waiting", "here", "place", "outline", "text", "later"] "way_to" (defScope (top 51)) f cdv A outer s H E0).nox 1 := ⟨hr, hg⟩
  have hN : (cxOf CX0 P w K mg base ["dictionary", "residue", "there", "found", "waiting", "here", "place", "outline", "text", "later"] "way_to" (defScope (top 51)) f cdv A outer s H E0).nox.N.Nodup := (sc_way_to).nd
  exact (ssm_cons (sm_par (i := 3) (j := 4) rfl hN rfl rfl (by decide) rfl rfl (am_cons (em_dispC (qm_cons (x_v 1) (em_tup am_nil) qm_nil) rfl rfl (by decide) (by decide)) (am_cons (em_cell (am_cons (x_v 1) am_nil)) am_nil)) (by rfl))
    (ssm_cons (sm_while (fun _ _ => 100000) PassesOwn.never (t_cmp (c_neA ft) (x_v 4) (em_lst am_nil) (by rfl)) (ssm_cons (sm_set (i := 5) hN rfl (Or.inl rfl) (em_popAt (x_v 4) (am_cons x_int am_nil)))
    (ssm_cons (sm_if (t_cmp (c_inA ft) (x_v 5) (x_v 2) (by rfl)) (ssm_one (sm_ret (em_ixA ft (x_v 3) (x_v 5) (by intro _ _; rfl) (by intro _ _; rfl)))) ssm_nil)
    (ssm_one (sm_for PassesOwn.never rfl (im_enumA (by rfl) T.b_enumerate (am_cons (x_v 0) am_nil)) (gm_tupN rfl (gN_cons (gm_name hN rfl (Or.inl rfl)) (gN_cons (gm_tup rfl (gsm_cons hN rfl (Or.inl rfl) (gsm_cons hN rfl (Or.inl rfl) gsm_nil))) gN_nil))) (ssm_cons (sm_set (i := 9) hN rfl (Or.inl rfl) (em_call (x := "step_by") (params := defArgs (top 29)) (body := defBody (top 29)) (scope := defScope (top 29)) (ps := ["residue", "row"]) (Has.shut h_step_by) ft (by first | decide | omega) (by rfl) (fun _ _ _ _ _ _ us hl => match us, hl with | [_, _], _ => rfl) (am_cons (x_v 5) (am_cons (x_v 7) am_nil))))
    (ssm_one (sm_if (tm_w (wm_and (t_cmp (c_isNot) (x_v 9) x_none (by rfl)) (wm_and1 (t_cmp (c_notInA ft) (x_v 9) (x_v 3) (by rfl))))) (ssm_cons (sm_asg (em_tup (am_star (em_ixA ft (x_v 3) (x_v 5) (by intro _ _; rfl) (by intro _ _; rfl)) (am_cons (x_v 6) am_nil))) (gm_subA ft (x_v 3) (x_v 9)))
    (ssm_one (sm_expr (em_appendF (x_v 4) (am_cons (x_v 9) am_nil))))) ssm_nil))))))))
    (ssm_one (sm_ret x_none))))
def m_led_by : SM :=
  mSeq (mFor (mIter (mV 2)) (mName 3) (mSet 1 (mIf (mBool (mBin fNotInA (mV 1) (mTup (mCons (mK (txt [])) (mCons (mK .non) mNil))))) (mApp 2 (mCons (mV 1) (mCons (mBin fIxA (mBin fIxA (mV 0) (mV 3)) (mK (.int 0))) mNil)) (shutM d_step_by)) (mK .non))))
  (mRet (mV 1))
def d_led_by : DM := mFnT 4 m_led_by
theorem sc_led_by : FnScope ["dictionary", "residue", "places", "place"] ["dictionary", "residue", "places"] (defScope (top 48)) := ⟨rfl, rfl, rfl, by decide +kernel, rfl, by decide +kernel, by decide +kernel⟩
theorem ok_led_by (T : Fx K mg) (h_step_by : HasT P w K mg base 1 29 "step_by" ["residue", "row"] d_step_by) : HasT P w K mg base 2 48 "led_by" ["dictionary", "residue", "places"] d_led_by := by
  obtain ⟨f, fd, F, hm⟩ := T.f_led_by
  refine ⟨f, fd, F, hm, runsT (N := ["dictionary", "residue", "places", "place"]) (m := m_led_by) F sc_led_by fun cdv A outer s H hr hg => ?_⟩
  have ft : Fit (cxOf CX0 P w K mg base ["dictionary", "residue", "places", "place"] "led_by" (defScope (top 48)) f cdv A outer s H E0).nox 1 := ⟨hr, hg⟩
  have hN : (cxOf CX0 P w K mg base ["dictionary", "residue", "places", "place"] "led_by" (defScope (top 48)) f cdv A outer s H E0).nox.N.Nodup := (sc_led_by).nd
  exact (ssm_cons (sm_for PassesOwn.never rfl (im_any (x_v 2)) (gm_name hN rfl (Or.inl rfl)) (ssm_one (sm_set (i := 1) hN rfl (Or.inl rfl) (em_ifExp (t_cmp (c_notInA ft) (x_v 1) (em_tup (am_cons (x_strL (l := [])) (am_cons x_none am_nil))) (by rfl)) (em_call (x := "step_by") (params := defArgs (top 29)) (body := defBody (top 29)) (scope := defScope (top 29)) (ps := ["residue", "row"]) (Has.shut h_step_by) ft (by first | decide | omega) (by rfl) (fun _ _ _ _ _ _ us hl => match us, hl with | [_, _], _ => rfl) (am_cons (x_v 1) (am_cons (em_ixA ft (em_ixA ft (x_v 0) (x_v 3) (by intro _ _; rfl) (by intro _ _; rfl)) x_int (by intro _ _; rfl) (by intro _ _; rfl)) am_nil))) x_none))))
    (ssm_one (sm_ret (x_v 1))))
def m_place_to : SM :=
  mSeq (mFor (mEnumA (mCons (mV 0) mNil)) ((mTupN [mName 3, mTupG [4, 5]])) (mIfS (mBool (mBin fInA (mApp 2 (mCons (mV 1) (mCons (mV 4) mNil)) (shutM d_step_by)) (mV 2))) (mRet (mV 3)) (mNext)))
  (mRet (mK .non))
def d_place_to : DM := mFnT 6 m_place_to
theorem sc_place_to : FnScope ["dictionary", "residue", "there", "place", "outline", "text"] ["dictionary", "residue", "there"] (defScope (top 50)) := ⟨rfl, rfl, rfl, by decide +kernel, rfl, by decide +kernel, by decide +kernel⟩
theorem ok_place_to (T : Fx K mg) (h_step_by : HasT P w K mg base 1 29 "step_by" ["residue", "row"] d_step_by) : HasT P w K mg base 2 50 "place_to" ["dictionary", "residue", "there"] d_place_to := by
  obtain ⟨f, fd, F, hm⟩ := T.f_place_to
  refine ⟨f, fd, F, hm, runsT (N := ["dictionary", "residue", "there", "place", "outline", "text"]) (m := m_place_to) F sc_place_to fun cdv A outer s H hr hg => ?_⟩
  have ft : Fit (cxOf CX0 P w K mg base ["dictionary", "residue", "there", "place", "outline", "text"] "place_to" (defScope (top 50)) f cdv A outer s H E0).nox 1 := ⟨hr, hg⟩
  have hN : (cxOf CX0 P w K mg base ["dictionary", "residue", "there", "place", "outline", "text"] "place_to" (defScope (top 50)) f cdv A outer s H E0).nox.N.Nodup := (sc_place_to).nd
  exact (ssm_cons (sm_for PassesOwn.never rfl (im_enumA (by rfl) T.b_enumerate (am_cons (x_v 0) am_nil)) (gm_tupN rfl (gN_cons (gm_name hN rfl (Or.inl rfl)) (gN_cons (gm_tup rfl (gsm_cons hN rfl (Or.inl rfl) (gsm_cons hN rfl (Or.inl rfl) gsm_nil))) gN_nil))) (ssm_one (sm_if (t_cmp (c_inA ft) (em_call (x := "step_by") (params := defArgs (top 29)) (body := defBody (top 29)) (scope := defScope (top 29)) (ps := ["residue", "row"]) (Has.shut h_step_by) ft (by first | decide | omega) (by rfl) (fun _ _ _ _ _ _ us hl => match us, hl with | [_, _], _ => rfl) (am_cons (x_v 1) (am_cons (x_v 4) am_nil))) (x_v 2) (by rfl)) (ssm_one (sm_ret (x_v 3))) ssm_nil)))
    (ssm_one (sm_ret x_none)))
def m_round_by : SM :=
  mSeq (mSet 4 (mApp 3 (mCons (mV 0) (mCons (mV 1) (mCons (mV 2) mNil))) (shutM d_led_by)))
  (mSeq (mPar 5 6 (mCons (mDispC (mPair1 (mV 4) (mK (.int 0)) (mPair0))) (mCons (mCell (mNil)) mNil)))
  (mSeq (mWhile (fun _ _ => 100000) (mBool (mBin fNeA (mV 4) (mK (txt [])))) (mSeq (mSet 7 (mApp 3 (mCons (mV 0) (mCons (mV 4) (mCons (mV 3) mNil))) (shutM d_place_to)))
  (mSeq (mSet 4 (mApp 2 (mCons (mV 4) (mCons (mBin fIxA (mBin fIxA (mV 0) (mV 7)) (mK (.int 0))) mNil)) (shutM d_step_by)))
  (mSeq (mExpr (mCellM fAppendF (mV 6) (mCons (mV 7) mNil)))
  (mSeq (mIfS (mBool (mBin fInA (mV 4) (mV 5))) (mRet (mTup (mCons (mTup (mStarA (mV 2) (mStarA (mSl (mV 6) (mNoPart) (mPart (mBin fIxA (mV 5) (mV 4)))) mNil))) (mCons (mCall fTuple (mCons (mSl (mV 6) (mPart (mBin fIxA (mV 5) (mV 4))) (mNoPart)) mNil)) mNil)))) (mNext))
  (mAsg (mCall fLenA (mCons (mV 6) mNil)) (mSubA (mV 5) (mV 4))))))))
  (mRet (mTup (mCons (mTup (mStarA (mV 2) (mStarA (mV 6) mNil))) (mCons (mTup (mNil)) mNil))))))
def d_round_by : DM := mFnT 8 m_round_by
theorem sc_round_by : FnScope ["dictionary", "residue", "before", "left", "here", "seen", "places", "place"] ["dictionary", "residue", "before", "left"] (defScope (top 53)) := ⟨rfl, rfl, rfl, by decide +kernel, rfl, by decide +kernel, by decide +kernel⟩
theorem ok_round_by (T : Fx K mg) (h_led_by : HasT P w K mg base 2 48 "led_by" ["dictionary", "residue", "places"] d_led_by) (h_place_to : HasT P w K mg base 2 50 "place_to" ["dictionary", "residue", "there"] d_place_to) (h_step_by : HasT P w K mg base 1 29 "step_by" ["residue", "row"] d_step_by) : HasT P w K mg base 3 53 "round_by" ["dictionary", "residue", "before", "left"] d_round_by := by
  obtain ⟨f, fd, F, hm⟩ := T.f_round_by
  refine ⟨f, fd, F, hm, runsT (N := ["dictionary", "residue", "before", "left", "here", "seen", "places", "place"]) (m := m_round_by) F sc_round_by fun cdv A outer s H hr hg => ?_⟩
  have ft : Fit (cxOf CX0 P w K mg base ["dictionary", "residue", "before", "left", "here", "seen", "places", "place"] "round_by" (defScope (top 53)) f cdv A outer s H E0).nox 2 := ⟨hr, hg⟩
  have hN : (cxOf CX0 P w K mg base ["dictionary", "residue", "before", "left", "here", "seen", "places", "place"] "round_by" (defScope (top 53)) f cdv A outer s H E0).nox.N.Nodup := (sc_round_by).nd
  exact (ssm_cons (sm_set (i := 4) hN rfl (Or.inl rfl) (em_call (x := "led_by") (params := defArgs (top 48)) (body := defBody (top 48)) (scope := defScope (top 48)) (ps := ["dictionary", "residue", "places"]) (Has.shut h_led_by) ft (by first | decide | omega) (by rfl) (fun _ _ _ _ _ _ us hl => match us, hl with | [_, _, _], _ => rfl) (am_cons (x_v 0) (am_cons (x_v 1) (am_cons (x_v 2) am_nil)))))
    (ssm_cons (sm_par (i := 5) (j := 6) rfl hN rfl rfl (by decide) rfl rfl (am_cons (em_dispC (qm_cons (x_v 4) x_int qm_nil) rfl rfl (by decide) (by decide)) (am_cons (em_cell am_nil) am_nil)) (by rfl))
    (ssm_cons (sm_while (fun _ _ => 100000) PassesOwn.never (t_cmp (c_neA ft) (x_v 4) (x_strL (l := [])) (by rfl)) (ssm_cons (sm_set (i := 7) hN rfl (Or.inl rfl) (em_call (x := "place_to") (params := defArgs (top 50)) (body := defBody (top 50)) (scope := defScope (top 50)) (ps := ["dictionary", "residue", "there"]) (Has.shut h_place_to) ft (by first | decide | omega) (by rfl) (fun _ _ _ _ _ _ us hl => match us, hl with | [_, _, _], _ => rfl) (am_cons (x_v 0) (am_cons (x_v 4) (am_cons (x_v 3) am_nil)))))
    (ssm_cons (sm_set (i := 4) hN rfl (Or.inl rfl) (em_call (x := "step_by") (params := defArgs (top 29)) (body := defBody (top 29)) (scope := defScope (top 29)) (ps := ["residue", "row"]) (Has.shut h_step_by) ft (by first | decide | omega) (by rfl) (fun _ _ _ _ _ _ us hl => match us, hl with | [_, _], _ => rfl) (am_cons (x_v 4) (am_cons (em_ixA ft (em_ixA ft (x_v 0) (x_v 7) (by intro _ _; rfl) (by intro _ _; rfl)) x_int (by intro _ _; rfl) (by intro _ _; rfl)) am_nil))))
    (ssm_cons (sm_expr (em_appendF (x_v 6) (am_cons (x_v 7) am_nil)))
    (ssm_cons (sm_if (t_cmp (c_inA ft) (x_v 4) (x_v 5) (by rfl)) (ssm_one (sm_ret (em_tup (am_cons (em_tup (am_star (x_v 2) (am_star (em_sl (x_v 6) om_none (om_some (em_ixA ft (x_v 5) (x_v 4) (by intro _ _; rfl) (by intro _ _; rfl)))) am_nil))) (am_cons (x_blt (b_tuple T.b_tuple) (am_cons (em_sl (x_v 6) (om_some (em_ixA ft (x_v 5) (x_v 4) (by intro _ _; rfl) (by intro _ _; rfl))) om_none) am_nil)) am_nil))))) ssm_nil)
    (ssm_one (sm_asg (x_blt (b_lenA T.b_len) (am_cons (x_v 6) am_nil)) (gm_subA ft (x_v 5) (x_v 4)))))))))
    (ssm_one (sm_ret (em_tup (am_cons (em_tup (am_star (x_v 2) (am_star (x_v 6) am_nil))) (am_cons (em_tup am_nil) am_nil))))))))
def m_ring_by : SM :=
  mSeq (mSet 1 (mApp 1 (mCons (mV 0) mNil) (shutM d_begins_by)))
  (mSeq (mSet 2 (mApp 2 (mCons (mApp 1 (mCons (mV 0) mNil) (shutM d_code_by)) (mCons (mCompN 1 (bName 3) (mYes) (mBin fIxA (mV 3) (mK (.int 0))) [3]) mNil)) (shutM d_endless_of)))
  (mSeq (mFor (mIter (mIf (mBool (mBin fNeA (mV 2) (mLst (mNil)))) (mV 1) (mLst (mNil)))) (mTupG [4, 5, 6]) (mSeq (mSet 7 (mApp 3 (mCons (mV 0) (mCons (mV 4) (mCons (mV 2) mNil))) (shutM d_way_to)))
  (mIfS (mBool (mBin fIsNot (mV 7) (mK .non))) (mRet (mTup (mCons (mV 5) (mCons (mV 6) (mStarA (mApp 4 (mCons (mV 0) (mCons (mV 4) (mCons (mV 7) (mCons (mV 2) mNil)))) (shutM d_round_by)) mNil))))) (mNext))))
  (mRet (mK .non))))
def d_ring_by : DM := mFnT 8 m_ring_by
theorem sc_ring_by : FnScope ["dictionary", "begins", "left", "one", "residue", "first", "second", "before"] ["dictionary"] (defScope (top 52)) := ⟨rfl, rfl, rfl, by decide +kernel, rfl, by decide +kernel, by decide +kernel⟩
theorem ok_ring_by (T : Fx K mg) (h_begins_by : HasT P w K mg base 1 47 "begins_by" ["dictionary"] d_begins_by) (h_endless_of : HasT P w K mg base 4 49 "endless_of" ["code", "begins"] d_endless_of) (h_code_by : HasT P w K mg base 1 24 "code_by" ["dictionary"] d_code_by) (h_way_to : HasT P w K mg base 2 51 "way_to" ["dictionary", "residue", "there"] d_way_to) (h_round_by : HasT P w K mg base 3 53 "round_by" ["dictionary", "residue", "before", "left"] d_round_by) : HasT P w K mg base 5 52 "ring_by" ["dictionary"] d_ring_by := by
  obtain ⟨f, fd, F, hm⟩ := T.f_ring_by
  refine ⟨f, fd, F, hm, runsT (N := ["dictionary", "begins", "left", "one", "residue", "first", "second", "before"]) (m := m_ring_by) F sc_ring_by fun cdv A outer s H hr hg => ?_⟩
  have ft : Fit (cxOf CX0 P w K mg base ["dictionary", "begins", "left", "one", "residue", "first", "second", "before"] "ring_by" (defScope (top 52)) f cdv A outer s H E0).nox 4 := ⟨hr, hg⟩
  have hN : (cxOf CX0 P w K mg base ["dictionary", "begins", "left", "one", "residue", "first", "second", "before"] "ring_by" (defScope (top 52)) f cdv A outer s H E0).nox.N.Nodup := (sc_ring_by).nd
  exact (ssm_cons (sm_set (i := 1) hN rfl (Or.inl rfl) (em_call (x := "begins_by") (params := defArgs (top 47)) (body := defBody (top 47)) (scope := defScope (top 47)) (ps := ["dictionary"]) (Has.shut h_begins_by) ft (by first | decide | omega) (by rfl) (fun _ _ _ _ _ _ us hl => match us, hl with | [_], _ => rfl) (am_cons (x_v 0) am_nil)))
    (ssm_cons (sm_set (i := 2) hN rfl (Or.inl rfl) (em_call (x := "endless_of") (params := defArgs (top 49)) (body := defBody (top 49)) (scope := defScope (top 49)) (ps := ["code", "begins"]) (Has.shut h_endless_of) ft (by first | decide | omega) (by rfl) (fun _ _ _ _ _ _ us hl => match us, hl with | [_, _], _ => rfl) (am_cons (em_call (x := "code_by") (params := defArgs (top 24)) (body := defBody (top 24)) (scope := defScope (top 24)) (ps := ["dictionary"]) (Has.shut h_code_by) ft (by first | decide | omega) (by rfl) (fun _ _ _ _ _ _ us hl => match us, hl with | [_], _ => rfl) (am_cons (x_v 0) am_nil)) (am_cons (em_compN 1 rfl hN ⟨blkOk_by (own := [("one", 3)]) (by first | decide +kernel | rfl), (fun _ _ _ _ _ => gw_name (by decide) hN rfl (Or.inl rfl)), (fun _ _ _ _ _ => tsm_nil), (fun _ _ _ _ _ => (em_ixA ft.blk (x_v 3) x_int (by intro _ _; rfl) (by intro _ _; rfl)))⟩) am_nil))))
    (ssm_cons (sm_for PassesOwn.never rfl (im_any (em_ifExp (t_cmp (c_neA ft) (x_v 2) (em_lst am_nil) (by rfl)) (x_v 1) (em_lst am_nil))) (gm_tup rfl (gsm_cons hN rfl (Or.inl rfl) (gsm_cons hN rfl (Or.inl rfl) (gsm_cons hN rfl (Or.inl rfl) gsm_nil)))) (ssm_cons (sm_set (i := 7) hN rfl (Or.inl rfl) (em_call (x := "way_to") (params := defArgs (top 51)) (body := defBody (top 51)) (scope := defScope (top 51)) (ps := ["dictionary", "residue", "there"]) (Has.shut h_way_to) ft (by first | decide | omega) (by rfl) (fun _ _ _ _ _ _ us hl => match us, hl with | [_, _, _], _ => rfl) (am_cons (x_v 0) (am_cons (x_v 4) (am_cons (x_v 2) am_nil)))))
    (ssm_one (sm_if (t_cmp (c_isNot) (x_v 7) x_none (by rfl)) (ssm_one (sm_ret (em_tup (am_cons (x_v 5) (am_cons (x_v 6) (am_star (em_call (x := "round_by") (params := defArgs (top 53)) (body := defBody (top 53)) (scope := defScope (top 53)) (ps := ["dictionary", "residue", "before", "left"]) (Has.shut h_round_by) ft (by first | decide | omega) (by rfl) (fun _ _ _ _ _ _ us hl => match us, hl with | [_, _, _, _], _ => rfl) (am_cons (x_v 0) (am_cons (x_v 4) (am_cons (x_v 7) (am_cons (x_v 2) am_nil))))) am_nil)))))) ssm_nil))))
    (ssm_one (sm_ret x_none)))))
def m_common_many : SM :=
  mSeq (mSet 2 (mCall fMin (mCons (mCall fLenA (mCons (mV 0) mNil)) (mCons (mCall fLenA (mCons (mV 1) mNil)) mNil))))
  (mSeq (mSet 3 (mComp (mRng1 (mCons (mV 2) mNil)) (bName 4) (mBool (mBin fNeA (mBin fIxA (mV 0) (mV 4)) (mBin fIxA (mV 1) (mV 4)))) (mV 4) [4]))
  (mRet (mIf (mBool (mBin fNeA (mV 3) (mLst (mNil)))) (mBin fIxA (mV 3) (mK (.int 0))) (mV 2))))
def d_common_many : DM := mFnT 5 m_common_many
theorem sc_common_many : FnScope ["one", "other", "most", "apart", "place"] ["one", "other"] (defScope (top 27)) := ⟨rfl, rfl, rfl, by decide +kernel, rfl, by decide +kernel, by decide +kernel⟩
theorem ok_common_many (T : Fx K mg) : HasT P w K mg base 1 27 "common_many" ["one", "other"] d_common_many := by
  obtain ⟨f, fd, F, hm⟩ := T.f_common_many
  refine ⟨f, fd, F, hm, runsT (N := ["one", "other", "most", "apart", "place"]) (m := m_common_many) F sc_common_many fun cdv A outer s H hr hg => ?_⟩
  have ft : Fit (cxOf CX0 P w K mg base ["one", "other", "most", "apart", "place"] "common_many" (defScope (top 27)) f cdv A outer s H E0).nox 0 := ⟨hr, hg⟩
  have hN : (cxOf CX0 P w K mg base ["one", "other", "most", "apart", "place"] "common_many" (defScope (top 27)) f cdv A outer s H E0).nox.N.Nodup := (sc_common_many).nd
  exact (ssm_cons (sm_set (i := 2) hN rfl (Or.inl rfl) (x_blt (b_min T.b_min) (am_cons (x_blt (b_lenA T.b_len) (am_cons (x_v 0) am_nil)) (am_cons (x_blt (b_lenA T.b_len) (am_cons (x_v 1) am_nil)) am_nil))))
    (ssm_cons (sm_comp (i := 3) rfl hN rfl rfl (im_rng1 (by rfl) T.b_range (am_cons (x_v 2) am_nil)) ⟨blkOk_by (own := [("place", 4)]) (by first | decide +kernel | rfl), (fun _ _ _ _ _ => gw_name (by decide) hN rfl (Or.inl rfl)), (fun _ _ _ _ _ => tsm_one (t_cmp (c_neA ft.blk) (em_ixA ft.blk (x_v 0) (x_v 4) (by intro _ _; rfl) (by intro _ _; rfl)) (em_ixA ft.blk (x_v 1) (x_v 4) (by intro _ _; rfl) (by intro _ _; rfl)) (by rfl))), (fun _ _ _ _ _ => (x_v 4))⟩ (sw_true rfl rfl rfl (by decide +kernel)))
    (ssm_one (sm_ret (em_ifExp (t_cmp (c_neA ft) (x_v 3) (em_lst am_nil) (by rfl)) (em_ixA ft (x_v 3) x_int (by intro _ _; rfl) (by intro _ _; rfl)) (x_v 2))))))
def m_alike_on : SM :=
  mSeq (mSet 3 (mApp 2 (mCons (mV 1) (mCons (mV 2) mNil)) (shutM d_step_by)))
  (mRet (mBin fAdd (mApp 2 (mCons (mV 1) (mCons (mV 2) mNil)) (shutM d_common_many)) (mIf (mBool (mBin fIsNot (mV 3) (mK .non))) (mBin fIxA (mV 0) (mV 3)) (mK (.int 0)))))
def d_alike_on : DM := mFnT 4 m_alike_on
theorem sc_alike_on : FnScope ["ranks", "residue", "outline", "rest"] ["ranks", "residue", "outline"] (defScope (top 55)) := ⟨rfl, rfl, rfl, by decide +kernel, rfl, by decide +kernel, by decide +kernel⟩
theorem ok_alike_on (T : Fx K mg) (h_step_by : HasT P w K mg base 1 29 "step_by" ["residue", "row"] d_step_by) (h_common_many : HasT P w K mg base 1 27 "common_many" ["one", "other"] d_common_many) : HasT P w K mg base 2 55 "alike_on" ["ranks", "residue", "outline"] d_alike_on := by
  obtain ⟨f, fd, F, hm⟩ := T.f_alike_on
  refine ⟨f, fd, F, hm, runsT (N := ["ranks", "residue", "outline", "rest"]) (m := m_alike_on) F sc_alike_on fun cdv A outer s H hr hg => ?_⟩
  have ft : Fit (cxOf CX0 P w K mg base ["ranks", "residue", "outline", "rest"] "alike_on" (defScope (top 55)) f cdv A outer s H E0).nox 1 := ⟨hr, hg⟩
  have hN : (cxOf CX0 P w K mg base ["ranks", "residue", "outline", "rest"] "alike_on" (defScope (top 55)) f cdv A outer s H E0).nox.N.Nodup := (sc_alike_on).nd
  exact (ssm_cons (sm_set (i := 3) hN rfl (Or.inl rfl) (em_call (x := "step_by") (params := defArgs (top 29)) (body := defBody (top 29)) (scope := defScope (top 29)) (ps := ["residue", "row"]) (Has.shut h_step_by) ft (by first | decide | omega) (by rfl) (fun _ _ _ _ _ _ us hl => match us, hl with | [_, _], _ => rfl) (am_cons (x_v 1) (am_cons (x_v 2) am_nil))))
    (ssm_one (sm_ret (x_add (em_call (x := "common_many") (params := defArgs (top 27)) (body := defBody (top 27)) (scope := defScope (top 27)) (ps := ["one", "other"]) (Has.shut h_common_many) ft (by first | decide | omega) (by rfl) (fun _ _ _ _ _ _ us hl => match us, hl with | [_, _], _ => rfl) (am_cons (x_v 1) (am_cons (x_v 2) am_nil))) (em_ifExp (t_cmp (c_isNot) (x_v 3) x_none (by rfl)) (em_ixA ft (x_v 0) (x_v 3) (by intro _ _; rfl) (by intro _ _; rfl)) x_int)))))
def m_ranks_by : SM :=
  mSeq (mSet 1 (mApp 1 (mCons (mV 0) mNil) (shutM d_code_by)))
  (mSeq (mAsg (mTup (mCons (mCall fDict (mCons (mComp (mIter (mApp 2 (mCons (mV 1) (mCons (mComp (mIter (mApp 1 (mCons (mV 0) mNil) (shutM d_begins_by))) (bName 4) (mYes) (mBin fIxA (mV 4) (mK (.int 0))) [4]) mNil)) (shutM d_gathered))) (bName 4) (mYes) (mTup (mCons (mV 4) (mCons (mK (.int 0)) mNil))) [4]) mNil)) (mCons (mK (.bl true)) mNil))) (mTupG [2, 3]))
  (mSeq (mWhile (fun _ _ => 100000) (mBool (mV 3)) (mSeq (mSet 5 (mCall fDict (mCons (mCompN 2 (bName 4) (mYes) (mTup (mCons (mV 4) (mCons (mCall fMaxB (mCons (mCompN 1 (bName 6) (mYes) (mApp 3 (mCons (mV 2) (mCons (mV 4) (mCons (mV 6) mNil))) (shutM d_alike_on)) [6]) mNil)) mNil))) [4]) mNil)))
  (mAsg (mTup (mCons (mBin fNeA (mV 5) (mV 2)) (mCons (mV 5) mNil))) (mTupG [3, 2]))))
  (mRet (mV 2))))
def d_ranks_by : DM := mFnT 7 m_ranks_by
theorem sc_ranks_by : FnScope ["dictionary", "code", "ranks", "is_more", "one", "later", "outline"] ["dictionary"] (defScope (top 54)) := ⟨rfl, rfl, rfl, by decide +kernel, rfl, by decide +kernel, by decide +kernel⟩
theorem ok_ranks_by (T : Fx K mg) (h_code_by : HasT P w K mg base 1 24 "code_by" ["dictionary"] d_code_by) (h_gathered : HasT P w K mg base 3 31 "gathered" ["code", "begins"] d_gathered) (h_alike_on : HasT P w K mg base 2 55 "alike_on" ["ranks", "residue", "outline"] d_alike_on) (h_begins_by : HasT P w K mg base 1 47 "begins_by" ["dictionary"] d_begins_by) : HasT P w K mg base 4 54 "ranks_by" ["dictionary"] d_ranks_by := by
  obtain ⟨f, fd, F, hm⟩ := T.f_ranks_by
  refine ⟨f, fd, F, hm, runsT (N := ["dictionary", "code", "ranks", "is_more", "one", "later", "outline"]) (m := m_ranks_by) F sc_ranks_by fun cdv A outer s H hr hg => ?_⟩
  have ft : Fit (cxOf CX0 P w K mg base ["dictionary", "code", "ranks", "is_more", "one", "later", "outline"] "ranks_by" (defScope (top 54)) f cdv A outer s H E0).nox 3 := ⟨hr, hg⟩
  have hN : (cxOf CX0 P w K mg base ["dictionary", "code", "ranks", "is_more", "one", "later", "outline"] "ranks_by" (defScope (top 54)) f cdv A outer s H E0).nox.N.Nodup := (sc_ranks_by).nd
  exact (ssm_cons (sm_set (i := 1) hN rfl (Or.inr rfl) (em_call (x := "code_by") (params := defArgs (top 24)) (body := defBody (top 24)) (scope := defScope (top 24)) (ps := ["dictionary"]) (Has.shut h_code_by) ft (by first | decide | omega) (by rfl) (fun _ _ _ _ _ _ us hl => match us, hl with | [_], _ => rfl) (am_cons (x_v 0) am_nil)))
    (ssm_cons (sm_asg (em_tup (am_cons (x_blt (b_dict T.b_dict) (am_cons (em_comp rfl hN (im_any (em_call (x := "gathered") (params := defArgs (top 31)) (body := defBody (top 31)) (scope := defScope (top 31)) (ps := ["code", "begins"]) (Has.shut h_gathered) ft (by first | decide | omega) (by rfl) (fun _ _ _ _ _ _ us hl => match us, hl with | [_, _], _ => rfl) (am_cons (x_v 1) (am_cons (em_comp rfl hN (im_any (em_call (x := "begins_by") (params := defArgs (top 47)) (body := defBody (top 47)) (scope := defScope (top 47)) (ps := ["dictionary"]) (Has.shut h_begins_by) ft (by first | decide | omega) (by rfl) (fun _ _ _ _ _ _ us hl => match us, hl with | [_], _ => rfl) (am_cons (x_v 0) am_nil))) ⟨blkOk_by (own := [("one", 4)]) (by first | decide +kernel | rfl), (fun _ _ _ _ _ => gw_name (by decide) hN rfl (Or.inl rfl)), (fun _ _ _ _ _ => tsm_nil), (fun _ _ _ _ _ => (em_ixA ft.blk (x_v 4) x_int (by intro _ _; rfl) (by intro _ _; rfl)))⟩) am_nil)))) ⟨blkOk_by (own := [("one", 4)]) (by first | decide +kernel | rfl), (fun _ _ _ _ _ => gw_name (by decide) hN rfl (Or.inl rfl)), (fun _ _ _ _ _ => tsm_nil), (fun _ _ _ _ _ => (em_tup (am_cons (x_v 4) (am_cons x_int am_nil))))⟩) am_nil)) (am_cons x_bool am_nil))) (gm_tup rfl (gsm_cons hN rfl (Or.inr rfl) (gsm_cons hN rfl (Or.inl rfl) gsm_nil))))
    (ssm_cons (sm_while (fun _ _ => 100000) PassesOwn.never (tm_val (x_v 3)) (ssm_cons (sm_set (i := 5) hN rfl (Or.inl rfl) (x_blt (b_dict T.b_dict) (am_cons (em_compN 2 rfl hN ⟨blkOk_by (own := [("one", 4)]) (by first | decide +kernel | rfl), (fun _ _ _ _ _ => gw_name (by decide) hN rfl (Or.inr rfl)), (fun _ _ _ _ _ => tsm_nil), (fun _ _ _ _ _ => (em_tup (am_cons (x_v 4) (am_cons (x_blt (b_maxB ft.blk T.b_max) (am_cons (em_compN 1 rfl hN ⟨blkOk_by (own := [("outline", 6)]) (by first | decide +kernel | rfl), (fun _ _ _ _ _ => gw_name (by decide) hN rfl (Or.inl rfl)), (fun _ _ _ _ _ => tsm_nil), (fun _ _ _ _ _ => (em_call (x := "alike_on") (params := defArgs (top 55)) (body := defBody (top 55)) (scope := defScope (top 55)) (ps := ["ranks", "residue", "outline"]) (Has.shut h_alike_on) ft.blk.blk (by first | decide | omega) (by rfl) (fun _ _ _ _ _ _ us hl => match us, hl with | [_, _, _], _ => rfl) (am_cons (x_v 2) (am_cons (x_v 4) (am_cons (x_v 6) am_nil)))))⟩) am_nil)) am_nil))))⟩) am_nil)))
    (ssm_one (sm_asg (em_tup (am_cons (x_cmp (c_neA ft) (x_v 5) (x_v 2) (by rfl)) (am_cons (x_v 5) am_nil))) (gm_tup rfl (gsm_cons hN rfl (Or.inl rfl) (gsm_cons hN rfl (Or.inr rfl) gsm_nil)))))))
    (ssm_one (sm_ret (x_v 2))))))
def m_starts_by : SM :=
  mSeq (mSet 2 (mCell (mNil)))
  (mSeq (mFor (mEnumA (mCons (mV 0) mNil)) ((mTupN [mName 3, mTupG [4, 5]])) (mFor (mEnumA (mCons (mV 0) mNil)) ((mTupN [mName 6, mTupG [7, 8]])) (mIfS (mAnd (mBool (mBin fNeA (mV 3) (mV 6))) (mBool (mBin fLeA (mCall fLenA (mCons (mV 4) mNil)) (mCall fLenA (mCons (mV 7) mNil))))) (mSeq (mSet 9 (mApp 2 (mCons (mV 4) (mCons (mV 7) mNil)) (shutM d_common_many)))
  (mSeq (mSet 10 (mIf (mBool (mBin fEqA (mV 9) (mCall fLenA (mCons (mV 4) mNil)))) (mSl (mV 7) (mPart (mV 9)) (mNoPart)) (mK .non)))
  (mExpr (mCellM fAppendF (mV 2) (mCons (mTup (mCons (mBin fAdd (mV 9) (mIf (mBool (mBin fIsNot (mV 10) (mK .non))) (mBin fIxA (mV 1) (mV 10)) (mK (.int 0)))) (mCons (mV 3) (mCons (mV 6) mNil)))) mNil))))) (mNext))))
  (mRet (mV 2)))
def d_starts_by : DM := mFnT 11 m_starts_by
theorem sc_starts_by : FnScope ["dictionary", "ranks", "found", "one", "outline", "text", "other", "longer", "its", "many", "rest"] ["dictionary", "ranks"] (defScope (top 56)) := ⟨rfl, rfl, rfl, by decide +kernel, rfl, by decide +kernel, by decide +kernel⟩
theorem ok_starts_by (T : Fx K mg) (h_common_many : HasT P w K mg base 1 27 "common_many" ["one", "other"] d_common_many) : HasT P w K mg base 2 56 "starts_by" ["dictionary", "ranks"] d_starts_by := by
  obtain ⟨f, fd, F, hm⟩ := T.f_starts_by
  refine ⟨f, fd, F, hm, runsT (N := ["dictionary", "ranks", "found", "one", "outline", "text", "other", "longer", "its", "many", "rest"]) (m := m_starts_by) F sc_starts_by fun cdv A outer s H hr hg => ?_⟩
  have ft : Fit (cxOf CX0 P w K mg base ["dictionary", "ranks", "found", "one", "outline", "text", "other", "longer", "its", "many", "rest"] "starts_by" (defScope (top 56)) f cdv A outer s H E0).nox 1 := ⟨hr, hg⟩
  have hN : (cxOf CX0 P w K mg base ["dictionary", "ranks", "found", "one", "outline", "text", "other", "longer", "its", "many", "rest"] "starts_by" (defScope (top 56)) f cdv A outer s H E0).nox.N.Nodup := (sc_starts_by).nd
  exact (ssm_cons (sm_set (i := 2) hN rfl (Or.inl rfl) (em_cell am_nil))
    (ssm_cons (sm_for PassesOwn.never rfl (im_enumA (by rfl) T.b_enumerate (am_cons (x_v 0) am_nil)) (gm_tupN rfl (gN_cons (gm_name hN rfl (Or.inl rfl)) (gN_cons (gm_tup rfl (gsm_cons hN rfl (Or.inl rfl) (gsm_cons hN rfl (Or.inl rfl) gsm_nil))) gN_nil))) (ssm_one (sm_for PassesOwn.never rfl (im_enumA (by rfl) T.b_enumerate (am_cons (x_v 0) am_nil)) (gm_tupN rfl (gN_cons (gm_name hN rfl (Or.inl rfl)) (gN_cons (gm_tup rfl (gsm_cons hN rfl (Or.inl rfl) (gsm_cons hN rfl (Or.inl rfl) gsm_nil))) gN_nil))) (ssm_one (sm_if (tm_w (wm_and (t_cmp (c_neA ft) (x_v 3) (x_v 6) (by rfl)) (wm_and1 (t_cmp (c_leA ft) (x_blt (b_lenA T.b_len) (am_cons (x_v 4) am_nil)) (x_blt (b_lenA T.b_len) (am_cons (x_v 7) am_nil)) (by rfl))))) (ssm_cons (sm_set (i := 9) hN rfl (Or.inl rfl) (em_call (x := "common_many") (params := defArgs (top 27)) (body := defBody (top 27)) (scope := defScope (top 27)) (ps := ["one", "other"]) (Has.shut h_common_many) ft (by first | decide | omega) (by rfl) (fun _ _ _ _ _ _ us hl => match us, hl with | [_, _], _ => rfl) (am_cons (x_v 4) (am_cons (x_v 7) am_nil))))
    (ssm_cons (sm_set (i := 10) hN rfl (Or.inl rfl) (em_ifExp (t_cmp (c_eqA ft) (x_v 9) (x_blt (b_lenA T.b_len) (am_cons (x_v 4) am_nil)) (by rfl)) (em_sl (x_v 7) (om_some (x_v 9)) om_none) x_none))
    (ssm_one (sm_expr (em_appendF (x_v 2) (am_cons (em_tup (am_cons (x_add (x_v 9) (em_ifExp (t_cmp (c_isNot) (x_v 10) x_none (by rfl)) (em_ixA ft (x_v 1) (x_v 10) (by intro _ _; rfl) (by intro _ _; rfl)) x_int)) (am_cons (x_v 3) (am_cons (x_v 6) am_nil)))) am_nil)))))) ssm_nil)))))
    (ssm_one (sm_ret (x_v 2)))))
def m_is_most : SM :=
  mRet (mBin fEqA (mApp 3 (mCons (mV 0) (mCons (mV 1) (mCons (mV 2) mNil))) (shutM d_alike_on)) (mBin fIxA (mV 0) (mV 1)))
def d_is_most : DM := mFnT 3 m_is_most
theorem sc_is_most : FnScope ["ranks", "residue", "outline"] ["ranks", "residue", "outline"] (defScope (top 58)) := ⟨rfl, rfl, rfl, by decide +kernel, rfl, by decide +kernel, by decide +kernel⟩
theorem ok_is_most (T : Fx K mg) (h_alike_on : HasT P w K mg base 2 55 "alike_on" ["ranks", "residue", "outline"] d_alike_on) : HasT P w K mg base 3 58 "is_most" ["ranks", "residue", "outline"] d_is_most := by
  obtain ⟨f, fd, F, hm⟩ := T.f_is_most
  refine ⟨f, fd, F, hm, runsT (N := ["ranks", "residue", "outline"]) (m := m_is_most) F sc_is_most fun cdv A outer s H hr hg => ?_⟩
  have ft : Fit (cxOf CX0 P w K mg base ["ranks", "residue", "outline"] "is_most" (defScope (top 58)) f cdv A outer s H E0).nox 2 := ⟨hr, hg⟩
  have hN : (cxOf CX0 P w K mg base ["ranks", "residue", "outline"] "is_most" (defScope (top 58)) f cdv A outer s H E0).nox.N.Nodup := (sc_is_most).nd
  exact (ssm_one (sm_ret (x_cmp (c_eqA ft) (em_call (x := "alike_on") (params := defArgs (top 55)) (body := defBody (top 55)) (scope := defScope (top 55)) (ps := ["ranks", "residue", "outline"]) (Has.shut h_alike_on) ft (by first | decide | omega) (by rfl) (fun _ _ _ _ _ _ us hl => match us, hl with | [_, _, _], _ => rfl) (am_cons (x_v 0) (am_cons (x_v 1) (am_cons (x_v 2) am_nil)))) (em_ixA ft (x_v 0) (x_v 1) (by intro _ _; rfl) (by intro _ _; rfl)) (by rfl))))
def m_readings_by : SM :=
  mSeq (mAsg (mV 2) (mTupG [3, 4, 5]))
  (mSeq (mPar3 6 7 8 (mCons (mTup (mCons (mV 4) mNil)) (mCons (mTup (mCons (mV 5) mNil)) (mCons (mK (.bl false)) mNil))))
  (mSeq (mSet 9 (mIf (mBool (mBin fGeA (mV 3) (mCall fLenA (mCons (mBin fIxA (mBin fIxA (mV 0) (mV 4)) (mK (.int 0))) mNil)))) (mApp 2 (mCons (mBin fIxA (mBin fIxA (mV 0) (mV 5)) (mK (.int 0))) (mCons (mBin fIxA (mBin fIxA (mV 0) (mV 4)) (mK (.int 0))) mNil)) (shutM d_step_by)) (mK .non)))
  (mSeq (mWhile (fun _ _ => 100000) (mAnd (mBool (mBin fIsNot (mV 9) (mK .non))) (mBool (mBin fGtA (mBin fIxA (mV 1) (mV 9)) (mK (.int 0))))) (mSeq (mSet 10 (mComp (mEnumA (mCons (mV 0) mNil)) ((bTupN [bName 11, (bTupN [bName 12, bName 13])])) (mBool (mApp 3 (mCons (mV 1) (mCons (mV 9) (mCons (mV 12) mNil))) (shutM d_is_most))) (mV 11) [11, 12, 13]))
  (mSeq (mSet 12 (mBin fIxA (mBin fIxA (mV 0) (mBin fIxA (mV 10) (mK (.int 0)))) (mK (.int 0))))
  (mSeq (mSet 6 (mTup (mStarA (mV 6) (mCons (mBin fIxA (mV 10) (mK (.int 0))) mNil))))
  (mSeq (mIfS (mNot (mBool (mStrM fStarts (mV 9) (mCons (mV 12) mNil)))) (mPar3 6 7 8 (mCons (mV 7) (mCons (mV 6) (mCons (mNotV (mV 8)) mNil)))) (mNext))
  (mSet 9 (mApp 2 (mCons (mV 9) (mCons (mV 12) mNil)) (shutM d_step_by))))))))
  (mRet (mIf (mBool (mV 8)) (mTup (mCons (mV 7) (mCons (mV 6) mNil))) (mTup (mCons (mV 6) (mCons (mV 7) mNil))))))))
def d_readings_by : DM := mFnT 14 m_readings_by
theorem sc_readings_by : FnScope ["dictionary", "ranks", "start", "number", "one", "other", "behind", "ahead", "swapped", "residue", "some", "place", "outline", "text"] ["dictionary", "ranks", "start"] (defScope (top 57)) := ⟨rfl, rfl, rfl, by decide +kernel, rfl, by decide +kernel, by decide +kernel⟩
theorem ok_readings_by (T : Fx K mg) (h_step_by : HasT P w K mg base 1 29 "step_by" ["residue", "row"] d_step_by) (h_is_most : HasT P w K mg base 3 58 "is_most" ["ranks", "residue", "outline"] d_is_most) : HasT P w K mg base 4 57 "readings_by" ["dictionary", "ranks", "start"] d_readings_by := by
  obtain ⟨f, fd, F, hm⟩ := T.f_readings_by
  refine ⟨f, fd, F, hm, runsT (N := ["dictionary", "ranks", "start", "number", "one", "other", "behind", "ahead", "swapped", "residue", "some", "place", "outline", "text"]) (m := m_readings_by) F sc_readings_by fun cdv A outer s H hr hg => ?_⟩
  have ft : Fit (cxOf CX0 P w K mg base ["dictionary", "ranks", "start", "number", "one", "other", "behind", "ahead", "swapped", "residue", "some", "place", "outline", "text"] "readings_by" (defScope (top 57)) f cdv A outer s H E0).nox 3 := ⟨hr, hg⟩
  have hN : (cxOf CX0 P w K mg base ["dictionary", "ranks", "start", "number", "one", "other", "behind", "ahead", "swapped", "residue", "some", "place", "outline", "text"] "readings_by" (defScope (top 57)) f cdv A outer s H E0).nox.N.Nodup := (sc_readings_by).nd
  exact (ssm_cons (sm_asg (x_v 2) (gm_tup rfl (gsm_cons hN rfl (Or.inl rfl) (gsm_cons hN rfl (Or.inl rfl) (gsm_cons hN rfl (Or.inl rfl) gsm_nil)))))
    (ssm_cons (sm_par3 (i := 6) (j := 7) (l := 8) rfl hN rfl rfl rfl (by decide) (by decide) (by decide) rfl rfl rfl (am_cons (em_tup (am_cons (x_v 4) am_nil)) (am_cons (em_tup (am_cons (x_v 5) am_nil)) (am_cons x_bool am_nil))) (by rfl))
    (ssm_cons (sm_set (i := 9) hN rfl (Or.inr rfl) (em_ifExp (t_cmp (c_geA ft) (x_v 3) (x_blt (b_lenA T.b_len) (am_cons (em_ixA ft (em_ixA ft (x_v 0) (x_v 4) (by intro _ _; rfl) (by intro _ _; rfl)) x_int (by intro _ _; rfl) (by intro _ _; rfl)) am_nil)) (by rfl)) (em_call (x := "step_by") (params := defArgs (top 29)) (body := defBody (top 29)) (scope := defScope (top 29)) (ps := ["residue", "row"]) (Has.shut h_step_by) ft (by first | decide | omega) (by rfl) (fun _ _ _ _ _ _ us hl => match us, hl with | [_, _], _ => rfl) (am_cons (em_ixA ft (em_ixA ft (x_v 0) (x_v 5) (by intro _ _; rfl) (by intro _ _; rfl)) x_int (by intro _ _; rfl) (by intro _ _; rfl)) (am_cons (em_ixA ft (em_ixA ft (x_v 0) (x_v 4) (by intro _ _; rfl) (by intro _ _; rfl)) x_int (by intro _ _; rfl) (by intro _ _; rfl)) am_nil))) x_none))
    (ssm_cons (sm_while (fun _ _ => 100000) PassesOwn.never (tm_w (wm_and (t_cmp (c_isNot) (x_v 9) x_none (by rfl)) (wm_and1 (t_cmp (c_gtA ft) (em_ixA ft (x_v 1) (x_v 9) (by intro _ _; rfl) (by intro _ _; rfl)) x_int (by rfl))))) (ssm_cons (sm_comp (i := 10) rfl hN rfl rfl (im_enumA (by rfl) T.b_enumerate (am_cons (x_v 0) am_nil)) ⟨blkOk_by (own := [("place", 11), ("outline", 12), ("text", 13)]) (by first | decide +kernel | rfl), (fun _ _ _ _ _ => (gw_tupN rfl (gB_cons (gw_name (by decide) hN rfl (Or.inl rfl)) (gB_cons (gw_tupN rfl (gB_cons (gw_name (by decide) hN rfl (Or.inl rfl)) (gB_cons (gw_name (by decide) hN rfl (Or.inl rfl)) gB_nil))) gB_nil)))), (fun _ _ _ _ _ => tsm_one (tm_val (em_call (x := "is_most") (params := defArgs (top 58)) (body := defBody (top 58)) (scope := defScope (top 58)) (ps := ["ranks", "residue", "outline"]) (Has.shut h_is_most) ft.blk (by first | decide | omega) (by rfl) (fun _ _ _ _ _ _ us hl => match us, hl with | [_, _, _], _ => rfl) (am_cons (x_v 1) (am_cons (x_v 9) (am_cons (x_v 12) am_nil)))))), (fun _ _ _ _ _ => (x_v 11))⟩ (sw_true rfl rfl rfl (by decide +kernel)))
    (ssm_cons (sm_set (i := 12) hN rfl (Or.inl rfl) (em_ixA ft (em_ixA ft (x_v 0) (em_ixA ft (x_v 10) x_int (by intro _ _; rfl) (by intro _ _; rfl)) (by intro _ _; rfl) (by intro _ _; rfl)) x_int (by intro _ _; rfl) (by intro _ _; rfl)))
    (ssm_cons (sm_set (i := 6) hN rfl (Or.inl rfl) (em_tup (am_star (x_v 6) (am_cons (em_ixA ft (x_v 10) x_int (by intro _ _; rfl) (by intro _ _; rfl)) am_nil))))
    (ssm_cons (sm_if (tm_not (tm_val (em_starts (x_v 9) (am_cons (x_v 12) am_nil)))) (ssm_one (sm_par3 (i := 6) (j := 7) (l := 8) rfl hN rfl rfl rfl (by decide) (by decide) (by decide) rfl rfl rfl (am_cons (x_v 7) (am_cons (x_v 6) (am_cons (em_not (x_v 8)) am_nil))) (by rfl))) ssm_nil)
    (ssm_one (sm_set (i := 9) hN rfl (Or.inr rfl) (em_call (x := "step_by") (params := defArgs (top 29)) (body := defBody (top 29)) (scope := defScope (top 29)) (ps := ["residue", "row"]) (Has.shut h_step_by) ft (by first | decide | omega) (by rfl) (fun _ _ _ _ _ _ us hl => match us, hl with | [_, _], _ => rfl) (am_cons (x_v 9) (am_cons (x_v 12) am_nil))))))))))
    (ssm_one (sm_ret (em_ifExp (tm_val (x_v 8)) (em_tup (am_cons (x_v 7) (am_cons (x_v 6) am_nil))) (em_tup (am_cons (x_v 6) (am_cons (x_v 7) am_nil))))))))))
def m_heard_by_6 : SM := mRet (mTup (mCons (mK (txt [104, 101, 97, 114, 100])) (mCons (mBin fAdd (mBin fIxA (mV 4) (mK (.int 0))) (mK (.int 1))) (mStarA (mApp 3 (mCons (mV 0) (mCons (mV 2) (mCons (mV 4) mNil))) (shutM d_readings_by)) (mCons (mV 3) mNil)))))
def m_heard_by_5 : SM := mSeq (mSet 4 (mCall fMaxB (mCons (mApp 2 (mCons (mV 0) (mCons (mV 2) mNil)) (shutM d_starts_by)) mNil))) m_heard_by_6
def m_heard_by_4 : SM := mSeq (mIfS (mBool (mBin fEqA (mCall fLenA (mCons (mV 0) mNil)) (mK (.int 1)))) (mRet (mTup (mCons (mK (txt [104, 101, 97, 114, 100])) (mCons (mK (.int 0)) (mCons (mK .non) (mCons (mK .non) (mCons (mV 3) mNil))))))) (mNext)) m_heard_by_5
def m_heard_by_3 : SM := mSeq (mSet 3 (mCall fTuple (mCons (mCall fSortedC (mCons (mUn fItems (mV 2)) mNil)) mNil))) m_heard_by_4
def m_heard_by_2 : SM := mSeq (mSet 2 (mApp 1 (mCons (mV 0) mNil) (shutM d_ranks_by))) m_heard_by_3
def m_heard_by_1 : SM := mSeq (mIfS (mBool (mBin fIsNot (mV 1) (mK .non))) (mRet (mTup (mCons (mK (txt [101, 110, 100, 108, 101, 115, 115])) (mCons (mV 1) mNil)))) (mNext)) m_heard_by_2
def m_heard_by : SM :=
  mSeq (mSet 1 (mApp 1 (mCons (mV 0) mNil) (shutM d_ring_by))) m_heard_by_1
def d_heard_by : DM := mFnT 5 m_heard_by
theorem sc_heard_by : FnScope ["dictionary", "ring", "ranks", "told", "start"] ["dictionary"] (defScope (top 59)) := ⟨rfl, rfl, rfl, by decide +kernel, rfl, by decide +kernel, by decide +kernel⟩
theorem ok_heard_by (T : Fx K mg) (h_ring_by : HasT P w K mg base 5 52 "ring_by" ["dictionary"] d_ring_by) (h_ranks_by : HasT P w K mg base 4 54 "ranks_by" ["dictionary"] d_ranks_by) (h_starts_by : HasT P w K mg base 2 56 "starts_by" ["dictionary", "ranks"] d_starts_by) (h_readings_by : HasT P w K mg base 4 57 "readings_by" ["dictionary", "ranks", "start"] d_readings_by) : HasT P w K mg base 6 59 "heard_by" ["dictionary"] d_heard_by := by
  obtain ⟨f, fd, F, hm⟩ := T.f_heard_by
  refine ⟨f, fd, F, hm, runsT (N := ["dictionary", "ring", "ranks", "told", "start"]) (m := m_heard_by) F sc_heard_by fun cdv A outer s H hr hg => ?_⟩
  have ft : Fit (cxOf CX0 P w K mg base ["dictionary", "ring", "ranks", "told", "start"] "heard_by" (defScope (top 59)) f cdv A outer s H E0).nox 5 := ⟨hr, hg⟩
  have hN : (cxOf CX0 P w K mg base ["dictionary", "ring", "ranks", "told", "start"] "heard_by" (defScope (top 59)) f cdv A outer s H E0).nox.N.Nodup := (sc_heard_by).nd
  exact (ssm_cons (sm_set (i := 1) hN rfl (Or.inl rfl) (em_call (x := "ring_by") (params := defArgs (top 52)) (body := defBody (top 52)) (scope := defScope (top 52)) (ps := ["dictionary"]) (Has.shut h_ring_by) ft (by first | decide | omega) (by rfl) (fun _ _ _ _ _ _ us hl => match us, hl with | [_], _ => rfl) (am_cons (x_v 0) am_nil)))
    (ssm_cons (sm_if (t_cmp (c_isNot) (x_v 1) x_none (by rfl)) (ssm_one (sm_ret (em_tup (am_cons (x_gSL (l := [101, 110, 100, 108, 101, 115, 115]) (T.g_ENDLESS).choose_spec) (am_cons (x_v 1) am_nil))))) ssm_nil)
    (ssm_cons (sm_set (i := 2) hN rfl (Or.inl rfl) (em_call (x := "ranks_by") (params := defArgs (top 54)) (body := defBody (top 54)) (scope := defScope (top 54)) (ps := ["dictionary"]) (Has.shut h_ranks_by) ft (by first | decide | omega) (by rfl) (fun _ _ _ _ _ _ us hl => match us, hl with | [_], _ => rfl) (am_cons (x_v 0) am_nil)))
    (ssm_cons (sm_set (i := 3) hN rfl (Or.inl rfl) (x_blt (b_tuple T.b_tuple) (am_cons (x_blt (b_sortedC ft T.b_sorted) (am_cons (em_listItems rfl (by rfl) T.b_list (x_v 2)) am_nil)) am_nil)))
    (ssm_cons (sm_if (t_cmp (c_eqA ft) (x_blt (b_lenA T.b_len) (am_cons (x_v 0) am_nil)) x_int (by rfl)) (ssm_one (sm_ret (em_tup (am_cons (x_gSL (l := [104, 101, 97, 114, 100]) (T.g_HEARD).choose_spec) (am_cons x_int (am_cons x_none (am_cons x_none (am_cons (x_v 3) am_nil)))))))) ssm_nil)
    (ssm_cons (sm_set (i := 4) hN rfl (Or.inl rfl) (x_blt (b_maxB ft T.b_max) (am_cons (em_call (x := "starts_by") (params := defArgs (top 56)) (body := defBody (top 56)) (scope := defScope (top 56)) (ps := ["dictionary", "ranks"]) (Has.shut h_starts_by) ft (by first | decide | omega) (by rfl) (fun _ _ _ _ _ _ us hl => match us, hl with | [_, _], _ => rfl) (am_cons (x_v 0) (am_cons (x_v 2) am_nil))) am_nil)))
    (ssm_one (sm_ret (em_tup (am_cons (x_gSL (l := [104, 101, 97, 114, 100]) (T.g_HEARD).choose_spec) (am_cons (x_add (em_ixA ft (x_v 4) x_int (by intro _ _; rfl) (by intro _ _; rfl)) x_int) (am_star (em_call (x := "readings_by") (params := defArgs (top 57)) (body := defBody (top 57)) (scope := defScope (top 57)) (ps := ["dictionary", "ranks", "start"]) (Has.shut h_readings_by) ft (by first | decide | omega) (by rfl) (fun _ _ _ _ _ _ us hl => match us, hl with | [_, _, _], _ => rfl) (am_cons (x_v 0) (am_cons (x_v 2) (am_cons (x_v 4) am_nil)))) (am_cons (x_v 3) am_nil)))))))))))))
def m_is_tuple_of : SM :=
  mRet (mAndV (mCall fIsi (mCons (mV 0) (mCons (mK (.ty "tuple")) mNil))) (mBin fEqA (mCall fLenA (mCons (mV 0) mNil)) (mV 1)))
def d_is_tuple_of : DM := mFnT 2 m_is_tuple_of
theorem sc_is_tuple_of : FnScope ["value", "many"] ["value", "many"] (defScope (top 11)) := ⟨rfl, rfl, rfl, by decide +kernel, rfl, by decide +kernel, by decide +kernel⟩
theorem ok_is_tuple_of (T : Fx K mg) : HasT P w K mg base 1 11 "is_tuple_of" ["value", "many"] d_is_tuple_of := by
  obtain ⟨f, fd, F, hm⟩ := T.f_is_tuple_of
  refine ⟨f, fd, F, hm, runsT (N := ["value", "many"]) (m := m_is_tuple_of) F sc_is_tuple_of fun cdv A outer s H hr hg => ?_⟩
  have ft : Fit (cxOf CX0 P w K mg base ["value", "many"] "is_tuple_of" (defScope (top 11)) f cdv A outer s H E0).nox 0 := ⟨hr, hg⟩
  have hN : (cxOf CX0 P w K mg base ["value", "many"] "is_tuple_of" (defScope (top 11)) f cdv A outer s H E0).nox.N.Nodup := (sc_is_tuple_of).nd
  exact (ssm_one (sm_ret (em_and (x_blt (b_isinstance T.b_isinstance) (am_cons (x_v 0) (am_cons (x_ty T.b_tuple) am_nil))) (em_one (x_cmp (c_eqA ft) (x_blt (b_lenA T.b_len) (am_cons (x_v 0) am_nil)) (x_v 1) (by rfl))))))
def m_is_entry_of : SM :=
  mRet (mAndV (mApp 2 (mCons (mV 0) (mCons (mK (.int 2)) mNil)) (shutM d_is_tuple_of)) (mAndV (mApp 3 (mCons (mBin fIxA (mV 0) (mK (.int 0))) (mCons (mK (.int 1)) (mCons (mK (.int 8)) mNil))) (shutM d_is_signs)) (mApp 3 (mCons (mBin fIxA (mV 0) (mK (.int 1))) (mCons (mK (.int 0)) (mCons (mK (.int 8)) mNil))) (shutM d_is_signs))))
def d_is_entry_of : DM := mFnT 1 m_is_entry_of
theorem sc_is_entry_of : FnScope ["value"] ["value"] (defScope (top 19)) := ⟨rfl, rfl, rfl, by decide +kernel, rfl, by decide +kernel, by decide +kernel⟩
theorem ok_is_entry_of (T : Fx K mg) (h_is_tuple_of : HasT P w K mg base 1 11 "is_tuple_of" ["value", "many"] d_is_tuple_of) (h_is_signs : HasT P w K mg base 2 14 "is_signs" ["value", "low", "high"] d_is_signs) : HasT P w K mg base 3 19 "is_entry_of" ["value"] d_is_entry_of := by
  obtain ⟨f, fd, F, hm⟩ := T.f_is_entry_of
  refine ⟨f, fd, F, hm, runsT (N := ["value"]) (m := m_is_entry_of) F sc_is_entry_of fun cdv A outer s H hr hg => ?_⟩
  have ft : Fit (cxOf CX0 P w K mg base ["value"] "is_entry_of" (defScope (top 19)) f cdv A outer s H E0).nox 2 := ⟨hr, hg⟩
  have hN : (cxOf CX0 P w K mg base ["value"] "is_entry_of" (defScope (top 19)) f cdv A outer s H E0).nox.N.Nodup := (sc_is_entry_of).nd
  exact (ssm_one (sm_ret (em_and (em_call (x := "is_tuple_of") (params := defArgs (top 11)) (body := defBody (top 11)) (scope := defScope (top 11)) (ps := ["value", "many"]) (Has.shut h_is_tuple_of) ft (by first | decide | omega) (by rfl) (fun _ _ _ _ _ _ us hl => match us, hl with | [_, _], _ => rfl) (am_cons (x_v 0) (am_cons x_int am_nil))) (em_and (em_call (x := "is_signs") (params := defArgs (top 14)) (body := defBody (top 14)) (scope := defScope (top 14)) (ps := ["value", "low", "high"]) (Has.shut h_is_signs) ft (by first | decide | omega) (by rfl) (fun _ _ _ _ _ _ us hl => match us, hl with | [_, _, _], _ => rfl) (am_cons (em_ixA ft (x_v 0) x_int (by intro _ _; rfl) (by intro _ _; rfl)) (am_cons x_int (am_cons (x_gI (T.g_MOST_OUTLINE).choose_spec) am_nil)))) (em_one (em_call (x := "is_signs") (params := defArgs (top 14)) (body := defBody (top 14)) (scope := defScope (top 14)) (ps := ["value", "low", "high"]) (Has.shut h_is_signs) ft (by first | decide | omega) (by rfl) (fun _ _ _ _ _ _ us hl => match us, hl with | [_, _, _], _ => rfl) (am_cons (em_ixA ft (x_v 0) x_int (by intro _ _; rfl) (by intro _ _; rfl)) (am_cons x_int (am_cons (x_gI (T.g_MOST_OUTLINE).choose_spec) am_nil)))))))))
def m_is_dictionary_of : SM :=
  mSeq (mIfS (mOr (mNot (mBool (mCall fIsi (mCons (mV 0) (mCons (mK (.ty "tuple")) mNil))))) (mNot (mBool (mChain fLeA fLeA (mK (.int 1)) (mCall fLenA (mCons (mV 0) mNil)) (mK (.int 16)))))) (mRet (mK (.bl false))) (mNext))
  (mRet (mAndV (mCall fAll (mCons (mCompN 0 (bName 1) (mYes) (mApp 1 (mCons (mV 1) mNil) (shutM d_is_entry_of)) [1]) mNil)) (mApp 1 (mCons (mV 0) mNil) (shutM d_is_ascending))))
def d_is_dictionary_of : DM := mFnT 2 m_is_dictionary_of
theorem sc_is_dictionary_of : FnScope ["value", "entry"] ["value"] (defScope (top 20)) := ⟨rfl, rfl, rfl, by decide +kernel, rfl, by decide +kernel, by decide +kernel⟩
theorem ok_is_dictionary_of (T : Fx K mg) (h_is_ascending : HasT P w K mg base 1 12 "is_ascending" ["value"] d_is_ascending) (h_is_entry_of : HasT P w K mg base 3 19 "is_entry_of" ["value"] d_is_entry_of) : HasT P w K mg base 4 20 "is_dictionary_of" ["value"] d_is_dictionary_of := by
  obtain ⟨f, fd, F, hm⟩ := T.f_is_dictionary_of
  refine ⟨f, fd, F, hm, runsT (N := ["value", "entry"]) (m := m_is_dictionary_of) F sc_is_dictionary_of fun cdv A outer s H hr hg => ?_⟩
  have ft : Fit (cxOf CX0 P w K mg base ["value", "entry"] "is_dictionary_of" (defScope (top 20)) f cdv A outer s H E0).nox 3 := ⟨hr, hg⟩
  have hN : (cxOf CX0 P w K mg base ["value", "entry"] "is_dictionary_of" (defScope (top 20)) f cdv A outer s H E0).nox.N.Nodup := (sc_is_dictionary_of).nd
  exact (ssm_cons (sm_if (tm_w (wm_or (tm_not (tm_val (x_blt (b_isinstance T.b_isinstance) (am_cons (x_v 0) (am_cons (x_ty T.b_tuple) am_nil))))) (wm_or1 (tm_not (t_chain (c_leA ft) (c_leA ft) x_int (x_blt (b_lenA T.b_len) (am_cons (x_v 0) am_nil)) (x_gI (T.g_MOST_ENTRIES).choose_spec) (by rfl)))))) (ssm_one (sm_ret x_bool)) ssm_nil)
    (ssm_one (sm_ret (em_and (x_blt (b_all T.b_all) (am_cons (em_compN 0 rfl hN ⟨blkOk_by (own := [("entry", 1)]) (by first | decide +kernel | rfl), (fun _ _ _ _ _ => gw_name (by decide) hN rfl (Or.inl rfl)), (fun _ _ _ _ _ => tsm_nil), (fun _ _ _ _ _ => (em_call (x := "is_entry_of") (params := defArgs (top 19)) (body := defBody (top 19)) (scope := defScope (top 19)) (ps := ["value"]) (Has.shut h_is_entry_of) ft.blk (by first | decide | omega) (by rfl) (fun _ _ _ _ _ _ us hl => match us, hl with | [_], _ => rfl) (am_cons (x_v 1) am_nil)))⟩) am_nil)) (em_one (em_call (x := "is_ascending") (params := defArgs (top 12)) (body := defBody (top 12)) (scope := defScope (top 12)) (ps := ["value"]) (Has.shut h_is_ascending) ft (by first | decide | omega) (by rfl) (fun _ _ _ _ _ _ us hl => match us, hl with | [_], _ => rfl) (am_cons (x_v 0) am_nil)))))))
def m_check_dictionary : SM :=
  mSeq (mIfS (mNot (mBool (mApp 1 (mCons (mV 0) mNil) (shutM d_is_dictionary_of)))) (mNever) (mNext))
  (mRet (mV 0))
def d_check_dictionary : DM := mFnT 1 m_check_dictionary
theorem sc_check_dictionary : FnScope ["value"] ["value"] (defScope (top 22)) := ⟨rfl, rfl, rfl, by decide +kernel, rfl, by decide +kernel, by decide +kernel⟩
theorem ok_check_dictionary (T : Fx K mg) (h_is_dictionary_of : HasT P w K mg base 4 20 "is_dictionary_of" ["value"] d_is_dictionary_of) : HasT P w K mg base 5 22 "check_dictionary" ["value"] d_check_dictionary := by
  obtain ⟨f, fd, F, hm⟩ := T.f_check_dictionary
  refine ⟨f, fd, F, hm, runsT (N := ["value"]) (m := m_check_dictionary) F sc_check_dictionary fun cdv A outer s H hr hg => ?_⟩
  have ft : Fit (cxOf CX0 P w K mg base ["value"] "check_dictionary" (defScope (top 22)) f cdv A outer s H E0).nox 4 := ⟨hr, hg⟩
  have hN : (cxOf CX0 P w K mg base ["value"] "check_dictionary" (defScope (top 22)) f cdv A outer s H E0).nox.N.Nodup := (sc_check_dictionary).nd
  exact (ssm_cons (sm_if (tm_not (tm_val (em_call (x := "is_dictionary_of") (params := defArgs (top 20)) (body := defBody (top 20)) (scope := defScope (top 20)) (ps := ["value"]) (Has.shut h_is_dictionary_of) ft (by first | decide | omega) (by rfl) (fun _ _ _ _ _ _ us hl => match us, hl with | [_], _ => rfl) (am_cons (x_v 0) am_nil)))) (ssm_one sm_never) ssm_nil)
    (ssm_one (sm_ret (x_v 0))))
def m_heard_told : SM :=
  mRet (mApp 1 (mCons (mApp 1 (mCons (mV 0) mNil) (shutM d_check_dictionary)) mNil) (shutM d_heard_by))
def d_heard_told : DM := mFnT 1 m_heard_told
theorem sc_heard_told : FnScope ["dictionary"] ["dictionary"] (defScope (top 65)) := ⟨rfl, rfl, rfl, by decide +kernel, rfl, by decide +kernel, by decide +kernel⟩
theorem ok_heard_told (T : Fx K mg) (h_heard_by : HasT P w K mg base 6 59 "heard_by" ["dictionary"] d_heard_by) (h_check_dictionary : HasT P w K mg base 5 22 "check_dictionary" ["value"] d_check_dictionary) : HasT P w K mg base 7 65 "heard_told" ["dictionary"] d_heard_told := by
  obtain ⟨f, fd, F, hm⟩ := T.f_heard_told
  refine ⟨f, fd, F, hm, runsT (N := ["dictionary"]) (m := m_heard_told) F sc_heard_told fun cdv A outer s H hr hg => ?_⟩
  have ft : Fit (cxOf CX0 P w K mg base ["dictionary"] "heard_told" (defScope (top 65)) f cdv A outer s H E0).nox 6 := ⟨hr, hg⟩
  have hN : (cxOf CX0 P w K mg base ["dictionary"] "heard_told" (defScope (top 65)) f cdv A outer s H E0).nox.N.Nodup := (sc_heard_told).nd
  exact (ssm_one (sm_ret (em_call (x := "heard_by") (params := defArgs (top 59)) (body := defBody (top 59)) (scope := defScope (top 59)) (ps := ["dictionary"]) (Has.shut h_heard_by) ft (by first | decide | omega) (by rfl) (fun _ _ _ _ _ _ us hl => match us, hl with | [_], _ => rfl) (am_cons (em_call (x := "check_dictionary") (params := defArgs (top 22)) (body := defBody (top 22)) (scope := defScope (top 22)) (ps := ["value"]) (Has.shut h_check_dictionary) ft (by first | decide | omega) (by rfl) (fun _ _ _ _ _ _ us hl => match us, hl with | [_], _ => rfl) (am_cons (x_v 0) am_nil)) am_nil))))
def m_is_integer : SM :=
  mRet (mAndV (mCall fIsi (mCons (mV 0) (mCons (mK (.ty "int")) mNil))) (mNotV (mCall fIsi (mCons (mV 0) (mCons (mK (.ty "bool")) mNil)))))
def d_is_integer : DM := mFnT 1 m_is_integer
theorem sc_is_integer : FnScope ["value"] ["value"] (defScope (top 8)) := ⟨rfl, rfl, rfl, by decide +kernel, rfl, by decide +kernel, by decide +kernel⟩
theorem ok_is_integer (T : Fx K mg) : HasT P w K mg base 1 8 "is_integer" ["value"] d_is_integer := by
  obtain ⟨f, fd, F, hm⟩ := T.f_is_integer
  refine ⟨f, fd, F, hm, runsT (N := ["value"]) (m := m_is_integer) F sc_is_integer fun cdv A outer s H hr hg => ?_⟩
  have ft : Fit (cxOf CX0 P w K mg base ["value"] "is_integer" (defScope (top 8)) f cdv A outer s H E0).nox 0 := ⟨hr, hg⟩
  have hN : (cxOf CX0 P w K mg base ["value"] "is_integer" (defScope (top 8)) f cdv A outer s H E0).nox.N.Nodup := (sc_is_integer).nd
  exact (ssm_one (sm_ret (em_and (x_blt (b_isinstance T.b_isinstance) (am_cons (x_v 0) (am_cons (x_ty T.b_int) am_nil))) (em_one (em_not (x_blt (b_isinstance T.b_isinstance) (am_cons (x_v 0) (am_cons (x_ty T.b_bool) am_nil))))))))
def m_is_between : SM :=
  mRet (mAndV (mApp 1 (mCons (mV 0) mNil) (shutM d_is_integer)) (mChain fLeA fLeA (mV 1) (mV 0) (mV 2)))
def d_is_between : DM := mFnT 3 m_is_between
theorem sc_is_between : FnScope ["value", "low", "high"] ["value", "low", "high"] (defScope (top 9)) := ⟨rfl, rfl, rfl, by decide +kernel, rfl, by decide +kernel, by decide +kernel⟩
theorem ok_is_between (T : Fx K mg) (h_is_integer : HasT P w K mg base 1 8 "is_integer" ["value"] d_is_integer) : HasT P w K mg base 2 9 "is_between" ["value", "low", "high"] d_is_between := by
  obtain ⟨f, fd, F, hm⟩ := T.f_is_between
  refine ⟨f, fd, F, hm, runsT (N := ["value", "low", "high"]) (m := m_is_between) F sc_is_between fun cdv A outer s H hr hg => ?_⟩
  have ft : Fit (cxOf CX0 P w K mg base ["value", "low", "high"] "is_between" (defScope (top 9)) f cdv A outer s H E0).nox 1 := ⟨hr, hg⟩
  have hN : (cxOf CX0 P w K mg base ["value", "low", "high"] "is_between" (defScope (top 9)) f cdv A outer s H E0).nox.N.Nodup := (sc_is_between).nd
  exact (ssm_one (sm_ret (em_and (em_call (x := "is_integer") (params := defArgs (top 8)) (body := defBody (top 8)) (scope := defScope (top 8)) (ps := ["value"]) (Has.shut h_is_integer) ft (by first | decide | omega) (by rfl) (fun _ _ _ _ _ _ us hl => match us, hl with | [_], _ => rfl) (am_cons (x_v 0) am_nil)) (em_one (x_chain (c_leA ft) (c_leA ft) (x_v 1) (x_v 0) (x_v 2) (by rfl))))))
def m_are_between : SM :=
  mRet (mAndV (mCall fIsi (mCons (mV 0) (mCons (mK (.ty "tuple")) mNil))) (mCall fAll (mCons (mCompN 0 (bName 3) (mYes) (mApp 3 (mCons (mV 3) (mCons (mV 1) (mCons (mV 2) mNil))) (shutM d_is_between)) [3]) mNil)))
def d_are_between : DM := mFnT 4 m_are_between
theorem sc_are_between : FnScope ["value", "low", "high", "one"] ["value", "low", "high"] (defScope (top 10)) := ⟨rfl, rfl, rfl, by decide +kernel, rfl, by decide +kernel, by decide +kernel⟩
theorem ok_are_between (T : Fx K mg) (h_is_between : HasT P w K mg base 2 9 "is_between" ["value", "low", "high"] d_is_between) : HasT P w K mg base 3 10 "are_between" ["value", "low", "high"] d_are_between := by
  obtain ⟨f, fd, F, hm⟩ := T.f_are_between
  refine ⟨f, fd, F, hm, runsT (N := ["value", "low", "high", "one"]) (m := m_are_between) F sc_are_between fun cdv A outer s H hr hg => ?_⟩
  have ft : Fit (cxOf CX0 P w K mg base ["value", "low", "high", "one"] "are_between" (defScope (top 10)) f cdv A outer s H E0).nox 2 := ⟨hr, hg⟩
  have hN : (cxOf CX0 P w K mg base ["value", "low", "high", "one"] "are_between" (defScope (top 10)) f cdv A outer s H E0).nox.N.Nodup := (sc_are_between).nd
  exact (ssm_one (sm_ret (em_and (x_blt (b_isinstance T.b_isinstance) (am_cons (x_v 0) (am_cons (x_ty T.b_tuple) am_nil))) (em_one (x_blt (b_all T.b_all) (am_cons (em_compN 0 rfl hN ⟨blkOk_by (own := [("one", 3)]) (by first | decide +kernel | rfl), (fun _ _ _ _ _ => gw_name (by decide) hN rfl (Or.inl rfl)), (fun _ _ _ _ _ => tsm_nil), (fun _ _ _ _ _ => (em_call (x := "is_between") (params := defArgs (top 9)) (body := defBody (top 9)) (scope := defScope (top 9)) (ps := ["value", "low", "high"]) (Has.shut h_is_between) ft.blk (by first | decide | omega) (by rfl) (fun _ _ _ _ _ _ us hl => match us, hl with | [_, _, _], _ => rfl) (am_cons (x_v 3) (am_cons (x_v 1) (am_cons (x_v 2) am_nil)))))⟩) am_nil))))))
def m_is_reading_of : SM :=
  mRet (mAndV (mApp 3 (mCons (mV 1) (mCons (mK (.int 0)) (mCons (mBin fSub (mCall fLenA (mCons (mV 0) mNil)) (mK (.int 1))) mNil))) (shutM d_are_between)) (mBin fLeA (mCall fLenA (mCons (mV 1) mNil)) (mK (.int 2000))))
def d_is_reading_of : DM := mFnT 2 m_is_reading_of
theorem sc_is_reading_of : FnScope ["dictionary", "value"] ["dictionary", "value"] (defScope (top 38)) := ⟨rfl, rfl, rfl, by decide +kernel, rfl, by decide +kernel, by decide +kernel⟩
theorem ok_is_reading_of (T : Fx K mg) (h_are_between : HasT P w K mg base 3 10 "are_between" ["value", "low", "high"] d_are_between) : HasT P w K mg base 4 38 "is_reading_of" ["dictionary", "value"] d_is_reading_of := by
  obtain ⟨f, fd, F, hm⟩ := T.f_is_reading_of
  refine ⟨f, fd, F, hm, runsT (N := ["dictionary", "value"]) (m := m_is_reading_of) F sc_is_reading_of fun cdv A outer s H hr hg => ?_⟩
  have ft : Fit (cxOf CX0 P w K mg base ["dictionary", "value"] "is_reading_of" (defScope (top 38)) f cdv A outer s H E0).nox 3 := ⟨hr, hg⟩
  have hN : (cxOf CX0 P w K mg base ["dictionary", "value"] "is_reading_of" (defScope (top 38)) f cdv A outer s H E0).nox.N.Nodup := (sc_is_reading_of).nd
  exact (ssm_one (sm_ret (em_and (em_call (x := "are_between") (params := defArgs (top 10)) (body := defBody (top 10)) (scope := defScope (top 10)) (ps := ["value", "low", "high"]) (Has.shut h_are_between) ft (by first | decide | omega) (by rfl) (fun _ _ _ _ _ _ us hl => match us, hl with | [_, _, _], _ => rfl) (am_cons (x_v 1) (am_cons x_int (am_cons (x_sub (x_blt (b_lenA T.b_len) (am_cons (x_v 0) am_nil)) x_int) am_nil)))) (em_one (x_cmp (c_leA ft) (x_blt (b_lenA T.b_len) (am_cons (x_v 1) am_nil)) (x_gI (T.g_MOST_ROW).choose_spec) (by rfl))))))
def m_row_by : SM :=
  mRet (mStrM fJoin (mK (txt [])) (mCons (mCompN 1 (bName 2) (mYes) (mBin fIxA (mBin fIxA (mV 0) (mV 2)) (mK (.int 0))) [2]) mNil))
def d_row_by : DM := mFnT 3 m_row_by
theorem sc_row_by : FnScope ["dictionary", "reading", "place"] ["dictionary", "reading"] (defScope (top 39)) := ⟨rfl, rfl, rfl, by decide +kernel, rfl, by decide +kernel, by decide +kernel⟩
theorem ok_row_by (T : Fx K mg) : HasT P w K mg base 1 39 "row_by" ["dictionary", "reading"] d_row_by := by
  obtain ⟨f, fd, F, hm⟩ := T.f_row_by
  refine ⟨f, fd, F, hm, runsT (N := ["dictionary", "reading", "place"]) (m := m_row_by) F sc_row_by fun cdv A outer s H hr hg => ?_⟩
  have ft : Fit (cxOf CX0 P w K mg base ["dictionary", "reading", "place"] "row_by" (defScope (top 39)) f cdv A outer s H E0).nox 0 := ⟨hr, hg⟩
  have hN : (cxOf CX0 P w K mg base ["dictionary", "reading", "place"] "row_by" (defScope (top 39)) f cdv A outer s H E0).nox.N.Nodup := (sc_row_by).nd
  exact (ssm_one (sm_ret (em_join (x_strL (l := [])) (am_cons (em_compN 1 rfl hN ⟨blkOk_by (own := [("place", 2)]) (by first | decide +kernel | rfl), (fun _ _ _ _ _ => gw_name (by decide) hN rfl (Or.inl rfl)), (fun _ _ _ _ _ => tsm_nil), (fun _ _ _ _ _ => (em_ixA ft.blk (em_ixA ft.blk (x_v 0) (x_v 2) (by intro _ _; rfl) (by intro _ _; rfl)) x_int (by intro _ _; rfl) (by intro _ _; rfl)))⟩) am_nil))))
def m_are_along : SM :=
  mSeq (mIfS (mBool (mBin fEqA (mV 1) (mK (.int 0)))) (mRet (mAndV (mBin fIs (mV 2) (mK .non)) (mBin fIs (mV 3) (mK .non)))) (mNext))
  (mSeq (mIfS (mOr (mNot (mBool (mApp 2 (mCons (mV 0) (mCons (mV 2) mNil)) (shutM d_is_reading_of)))) (mNot (mBool (mApp 2 (mCons (mV 0) (mCons (mV 3) mNil)) (shutM d_is_reading_of))))) (mRet (mK (.bl false))) (mNext))
  (mSeq (mIfS (mOr (mBool (mBin fEqA (mV 2) (mTup (mNil)))) (mOr (mBool (mBin fEqA (mV 3) (mTup (mNil)))) (mBool (mBin fEqA (mBin fIxA (mV 2) (mK (.int 0))) (mBin fIxA (mV 3) (mK (.int 0))))))) (mRet (mK (.bl false))) (mNext))
  (mRet (mBin fGeA (mApp 2 (mCons (mApp 2 (mCons (mV 0) (mCons (mV 2) mNil)) (shutM d_row_by)) (mCons (mApp 2 (mCons (mV 0) (mCons (mV 3) mNil)) (shutM d_row_by)) mNil)) (shutM d_common_many)) (mBin fSub (mV 1) (mK (.int 1)))))))
def d_are_along : DM := mFnT 4 m_are_along
theorem sc_are_along : FnScope ["dictionary", "number", "one", "other"] ["dictionary", "number", "one", "other"] (defScope (top 62)) := ⟨rfl, rfl, rfl, by decide +kernel, rfl, by decide +kernel, by decide +kernel⟩
theorem ok_are_along (T : Fx K mg) (h_common_many : HasT P w K mg base 1 27 "common_many" ["one", "other"] d_common_many) (h_is_reading_of : HasT P w K mg base 4 38 "is_reading_of" ["dictionary", "value"] d_is_reading_of) (h_row_by : HasT P w K mg base 1 39 "row_by" ["dictionary", "reading"] d_row_by) : HasT P w K mg base 5 62 "are_along" ["dictionary", "number", "one", "other"] d_are_along := by
  obtain ⟨f, fd, F, hm⟩ := T.f_are_along
  refine ⟨f, fd, F, hm, runsT (N := ["dictionary", "number", "one", "other"]) (m := m_are_along) F sc_are_along fun cdv A outer s H hr hg => ?_⟩
  have ft : Fit (cxOf CX0 P w K mg base ["dictionary", "number", "one", "other"] "are_along" (defScope (top 62)) f cdv A outer s H E0).nox 4 := ⟨hr, hg⟩
  have hN : (cxOf CX0 P w K mg base ["dictionary", "number", "one", "other"] "are_along" (defScope (top 62)) f cdv A outer s H E0).nox.N.Nodup := (sc_are_along).nd
  exact (ssm_cons (sm_if (t_cmp (c_eqA ft) (x_v 1) x_int (by rfl)) (ssm_one (sm_ret (em_and (x_cmp (c_is) (x_v 2) x_none (by rfl)) (em_one (x_cmp (c_is) (x_v 3) x_none (by rfl)))))) ssm_nil)
    (ssm_cons (sm_if (tm_w (wm_or (tm_not (tm_val (em_call (x := "is_reading_of") (params := defArgs (top 38)) (body := defBody (top 38)) (scope := defScope (top 38)) (ps := ["dictionary", "value"]) (Has.shut h_is_reading_of) ft (by first | decide | omega) (by rfl) (fun _ _ _ _ _ _ us hl => match us, hl with | [_, _], _ => rfl) (am_cons (x_v 0) (am_cons (x_v 2) am_nil))))) (wm_or1 (tm_not (tm_val (em_call (x := "is_reading_of") (params := defArgs (top 38)) (body := defBody (top 38)) (scope := defScope (top 38)) (ps := ["dictionary", "value"]) (Has.shut h_is_reading_of) ft (by first | decide | omega) (by rfl) (fun _ _ _ _ _ _ us hl => match us, hl with | [_, _], _ => rfl) (am_cons (x_v 0) (am_cons (x_v 3) am_nil)))))))) (ssm_one (sm_ret x_bool)) ssm_nil)
    (ssm_cons (sm_if (tm_w (wm_or (t_cmp (c_eqA ft) (x_v 2) (em_tup am_nil) (by rfl)) (wm_or (t_cmp (c_eqA ft) (x_v 3) (em_tup am_nil) (by rfl)) (wm_or1 (t_cmp (c_eqA ft) (em_ixA ft (x_v 2) x_int (by intro _ _; rfl) (by intro _ _; rfl)) (em_ixA ft (x_v 3) x_int (by intro _ _; rfl) (by intro _ _; rfl)) (by rfl)))))) (ssm_one (sm_ret x_bool)) ssm_nil)
    (ssm_one (sm_ret (x_cmp (c_geA ft) (em_call (x := "common_many") (params := defArgs (top 27)) (body := defBody (top 27)) (scope := defScope (top 27)) (ps := ["one", "other"]) (Has.shut h_common_many) ft (by first | decide | omega) (by rfl) (fun _ _ _ _ _ _ us hl => match us, hl with | [_, _], _ => rfl) (am_cons (em_call (x := "row_by") (params := defArgs (top 39)) (body := defBody (top 39)) (scope := defScope (top 39)) (ps := ["dictionary", "reading"]) (Has.shut h_row_by) ft (by first | decide | omega) (by rfl) (fun _ _ _ _ _ _ us hl => match us, hl with | [_, _], _ => rfl) (am_cons (x_v 0) (am_cons (x_v 2) am_nil))) (am_cons (em_call (x := "row_by") (params := defArgs (top 39)) (body := defBody (top 39)) (scope := defScope (top 39)) (ps := ["dictionary", "reading"]) (Has.shut h_row_by) ft (by first | decide | omega) (by rfl) (fun _ _ _ _ _ _ us hl => match us, hl with | [_, _], _ => rfl) (am_cons (x_v 0) (am_cons (x_v 3) am_nil))) am_nil))) (x_sub (x_v 1) x_int) (by rfl)))))))
def m_is_natural : SM :=
  mRet (mAndV (mApp 1 (mCons (mV 0) mNil) (shutM d_is_integer)) (mBin fGeA (mV 0) (mK (.int 0))))
def d_is_natural : DM := mFnT 1 m_is_natural
theorem sc_is_natural : FnScope ["value"] ["value"] (defScope (top 60)) := ⟨rfl, rfl, rfl, by decide +kernel, rfl, by decide +kernel, by decide +kernel⟩
theorem ok_is_natural (T : Fx K mg) (h_is_integer : HasT P w K mg base 1 8 "is_integer" ["value"] d_is_integer) : HasT P w K mg base 2 60 "is_natural" ["value"] d_is_natural := by
  obtain ⟨f, fd, F, hm⟩ := T.f_is_natural
  refine ⟨f, fd, F, hm, runsT (N := ["value"]) (m := m_is_natural) F sc_is_natural fun cdv A outer s H hr hg => ?_⟩
  have ft : Fit (cxOf CX0 P w K mg base ["value"] "is_natural" (defScope (top 60)) f cdv A outer s H E0).nox 1 := ⟨hr, hg⟩
  have hN : (cxOf CX0 P w K mg base ["value"] "is_natural" (defScope (top 60)) f cdv A outer s H E0).nox.N.Nodup := (sc_is_natural).nd
  exact (ssm_one (sm_ret (em_and (em_call (x := "is_integer") (params := defArgs (top 8)) (body := defBody (top 8)) (scope := defScope (top 8)) (ps := ["value"]) (Has.shut h_is_integer) ft (by first | decide | omega) (by rfl) (fun _ _ _ _ _ _ us hl => match us, hl with | [_], _ => rfl) (am_cons (x_v 0) am_nil)) (em_one (x_cmp (c_geA ft) (x_v 0) x_int (by rfl))))))
def m_is_rest : SM :=
  mRet (mApp 3 (mCons (mV 0) (mCons (mK (.int 1)) (mCons (mK (.int 7)) mNil))) (shutM d_is_signs))
def d_is_rest : DM := mFnT 1 m_is_rest
theorem sc_is_rest : FnScope ["value"] ["value"] (defScope (top 34)) := ⟨rfl, rfl, rfl, by decide +kernel, rfl, by decide +kernel, by decide +kernel⟩
theorem ok_is_rest (T : Fx K mg) (h_is_signs : HasT P w K mg base 2 14 "is_signs" ["value", "low", "high"] d_is_signs) : HasT P w K mg base 3 34 "is_rest" ["value"] d_is_rest := by
  obtain ⟨f, fd, F, hm⟩ := T.f_is_rest
  refine ⟨f, fd, F, hm, runsT (N := ["value"]) (m := m_is_rest) F sc_is_rest fun cdv A outer s H hr hg => ?_⟩
  have ft : Fit (cxOf CX0 P w K mg base ["value"] "is_rest" (defScope (top 34)) f cdv A outer s H E0).nox 2 := ⟨hr, hg⟩
  have hN : (cxOf CX0 P w K mg base ["value"] "is_rest" (defScope (top 34)) f cdv A outer s H E0).nox.N.Nodup := (sc_is_rest).nd
  exact (ssm_one (sm_ret (em_call (x := "is_signs") (params := defArgs (top 14)) (body := defBody (top 14)) (scope := defScope (top 14)) (ps := ["value", "low", "high"]) (Has.shut h_is_signs) ft (by first | decide | omega) (by rfl) (fun _ _ _ _ _ _ us hl => match us, hl with | [_, _, _], _ => rfl) (am_cons (x_v 0) (am_cons x_int (am_cons (x_gI (T.g_MOST_REST).choose_spec) am_nil))))))
def m_are_ranks_6 : SM := mRet (mCall fAll (mCons (mComp (mIter (mApp 2 (mCons (mV 0) (mCons (mV 4) mNil)) (shutM d_starts_by))) (bTup [11, 7, 9]) (mYes) (mBin fGtA (mV 1) (mV 11)) [11, 7, 9]) mNil))
def m_are_ranks_5 : SM := mSeq (mIfS (mNot (mBool (mCall fAll (mCons (mCompN 4 (bName 7) (mYes) (mCall fAll (mCons (mCompN 5 (bName 10) (mYes) (mBin fLeA (mApp 3 (mCons (mV 4) (mCons (mV 7) (mCons (mV 10) mNil))) (shutM d_alike_on)) (mBin fIxA (mV 4) (mV 7))) [10]) mNil)) [7]) mNil)))) (mRet (mK (.bl false))) (mNext)) m_are_ranks_6
def m_are_ranks_4 : SM := mSeq (mIfS (mNot (mBool (mCall fAll (mCons (mComp (mIter (mApp 1 (mCons (mV 0) mNil) (shutM d_begins_by))) (bTup [8, 7, 9]) (mYes) (mBin fInA (mV 8) (mV 4)) [8, 7, 9]) mNil)))) (mRet (mK (.bl false))) (mNext)) m_are_ranks_5
def m_are_ranks_3 : SM := mSeq (mIfS (mNot (mBool (mCall fAll (mCons (mCompN 4 (bName 7) (mYes) (mCall fAll (mCons (mComp (mIter (mApp 2 (mCons (mV 5) (mCons (mV 7) mNil)) (shutM d_steps_of))) (bName 6) (mYes) (mBin fInA (mV 6) (mV 4)) [6]) mNil)) [7]) mNil)))) (mRet (mK (.bl false))) (mNext)) m_are_ranks_4
def m_are_ranks_2 : SM := mSeq (mAsg (mTup (mCons (mCall fDict (mCons (mCall fListA (mCons (mV 2) mNil)) mNil)) (mCons (mApp 1 (mCons (mV 0) mNil) (shutM d_code_by)) mNil))) (mTupG [4, 5])) m_are_ranks_3
def m_are_ranks_1 : SM := mSeq (mIfS (mOr (mNot (mBool (mCall fAll (mCons (mCompN 2 (bName 3) (mYes) (mApp 1 (mCons (mBin fIxA (mV 3) (mK (.int 1))) mNil) (shutM d_is_natural)) [3]) mNil)))) (mNot (mBool (mApp 1 (mCons (mCompN 2 (bName 3) (mYes) (mBin fIxA (mV 3) (mK (.int 0))) [3]) mNil) (shutM d_is_ascending))))) (mRet (mK (.bl false))) (mNext)) m_are_ranks_2
def m_are_ranks : SM :=
  mSeq (mIfS (mOr (mNot (mBool (mCall fIsi (mCons (mV 2) (mCons (mK (.ty "tuple")) mNil))))) (mNot (mBool (mCall fAll (mCons (mCompN 2 (bName 3) (mYes) (mAndV (mApp 2 (mCons (mV 3) (mCons (mK (.int 2)) mNil)) (shutM d_is_tuple_of)) (mApp 1 (mCons (mBin fIxA (mV 3) (mK (.int 0))) mNil) (shutM d_is_rest))) [3]) mNil))))) (mRet (mK (.bl false))) (mNext)) m_are_ranks_1
def d_are_ranks : DM := mFnT 12 m_are_ranks
theorem sc_are_ranks : FnScope ["dictionary", "number", "value", "row", "ranks", "code", "there", "one", "residue", "other", "outline", "many"] ["dictionary", "number", "value"] (defScope (top 61)) := ⟨rfl, rfl, rfl, by decide +kernel, rfl, by decide +kernel, by decide +kernel⟩
theorem ok_are_ranks (T : Fx K mg) (h_code_by : HasT P w K mg base 1 24 "code_by" ["dictionary"] d_code_by) (h_is_ascending : HasT P w K mg base 1 12 "is_ascending" ["value"] d_is_ascending) (h_starts_by : HasT P w K mg base 2 56 "starts_by" ["dictionary", "ranks"] d_starts_by) (h_is_natural : HasT P w K mg base 2 60 "is_natural" ["value"] d_is_natural) (h_begins_by : HasT P w K mg base 1 47 "begins_by" ["dictionary"] d_begins_by) (h_is_tuple_of : HasT P w K mg base 1 11 "is_tuple_of" ["value", "many"] d_is_tuple_of) (h_is_rest : HasT P w K mg base 3 34 "is_rest" ["value"] d_is_rest) (h_steps_of : HasT P w K mg base 2 30 "steps_of" ["code", "residue"] d_steps_of) (h_alike_on : HasT P w K mg base 2 55 "alike_on" ["ranks", "residue", "outline"] d_alike_on) : HasT P w K mg base 4 61 "are_ranks" ["dictionary", "number", "value"] d_are_ranks := by
  obtain ⟨f, fd, F, hm⟩ := T.f_are_ranks
  refine ⟨f, fd, F, hm, runsT (N := ["dictionary", "number", "value", "row", "ranks", "code", "there", "one", "residue", "other", "outline", "many"]) (m := m_are_ranks) F sc_are_ranks fun cdv A outer s H hr hg => ?_⟩
  have ft : Fit (cxOf CX0 P w K mg base ["dictionary", "number", "value", "row", "ranks", "code", "there", "one", "residue", "other", "outline", "many"] "are_ranks" (defScope (top 61)) f cdv A outer s H E0).nox 3 := ⟨hr, hg⟩
  have hN : (cxOf CX0 P w K mg base ["dictionary", "number", "value", "row", "ranks", "code", "there", "one", "residue", "other", "outline", "many"] "are_ranks" (defScope (top 61)) f cdv A outer s H E0).nox.N.Nodup := (sc_are_ranks).nd
  exact (ssm_cons (sm_if (tm_w (wm_or (tm_not (tm_val (x_blt (b_isinstance T.b_isinstance) (am_cons (x_v 2) (am_cons (x_ty T.b_tuple) am_nil))))) (wm_or1 (tm_not (tm_val (x_blt (b_all T.b_all) (am_cons (em_compN 2 rfl hN ⟨blkOk_by (own := [("row", 3)]) (by first | decide +kernel | rfl), (fun _ _ _ _ _ => gw_name (by decide) hN rfl (Or.inl rfl)), (fun _ _ _ _ _ => tsm_nil), (fun _ _ _ _ _ => (em_and (em_call (x := "is_tuple_of") (params := defArgs (top 11)) (body := defBody (top 11)) (scope := defScope (top 11)) (ps := ["value", "many"]) (Has.shut h_is_tuple_of) ft.blk (by first | decide | omega) (by rfl) (fun _ _ _ _ _ _ us hl => match us, hl with | [_, _], _ => rfl) (am_cons (x_v 3) (am_cons x_int am_nil))) (em_one (em_call (x := "is_rest") (params := defArgs (top 34)) (body := defBody (top 34)) (scope := defScope (top 34)) (ps := ["value"]) (Has.shut h_is_rest) ft.blk (by first | decide | omega) (by rfl) (fun _ _ _ _ _ _ us hl => match us, hl with | [_], _ => rfl) (am_cons (em_ixA ft.blk (x_v 3) x_int (by intro _ _; rfl) (by intro _ _; rfl)) am_nil)))))⟩) am_nil))))))) (ssm_one (sm_ret x_bool)) ssm_nil)
    (ssm_cons (sm_if (tm_w (wm_or (tm_not (tm_val (x_blt (b_all T.b_all) (am_cons (em_compN 2 rfl hN ⟨blkOk_by (own := [("row", 3)]) (by first | decide +kernel | rfl), (fun _ _ _ _ _ => gw_name (by decide) hN rfl (Or.inl rfl)), (fun _ _ _ _ _ => tsm_nil), (fun _ _ _ _ _ => (em_call (x := "is_natural") (params := defArgs (top 60)) (body := defBody (top 60)) (scope := defScope (top 60)) (ps := ["value"]) (Has.shut h_is_natural) ft.blk (by first | decide | omega) (by rfl) (fun _ _ _ _ _ _ us hl => match us, hl with | [_], _ => rfl) (am_cons (em_ixA ft.blk (x_v 3) x_int (by intro _ _; rfl) (by intro _ _; rfl)) am_nil)))⟩) am_nil)))) (wm_or1 (tm_not (tm_val (em_call (x := "is_ascending") (params := defArgs (top 12)) (body := defBody (top 12)) (scope := defScope (top 12)) (ps := ["value"]) (Has.shut h_is_ascending) ft (by first | decide | omega) (by rfl) (fun _ _ _ _ _ _ us hl => match us, hl with | [_], _ => rfl) (am_cons (em_compN 2 rfl hN ⟨blkOk_by (own := [("row", 3)]) (by first | decide +kernel | rfl), (fun _ _ _ _ _ => gw_name (by decide) hN rfl (Or.inl rfl)), (fun _ _ _ _ _ => tsm_nil), (fun _ _ _ _ _ => (em_ixA ft.blk (x_v 3) x_int (by intro _ _; rfl) (by intro _ _; rfl)))⟩) am_nil))))))) (ssm_one (sm_ret x_bool)) ssm_nil)
    (ssm_cons (sm_asg (em_tup (am_cons (x_blt (b_dict T.b_dict) (am_cons (x_blt (b_listA T.b_list) (am_cons (x_v 2) am_nil)) am_nil)) (am_cons (em_call (x := "code_by") (params := defArgs (top 24)) (body := defBody (top 24)) (scope := defScope (top 24)) (ps := ["dictionary"]) (Has.shut h_code_by) ft (by first | decide | omega) (by rfl) (fun _ _ _ _ _ _ us hl => match us, hl with | [_], _ => rfl) (am_cons (x_v 0) am_nil)) am_nil))) (gm_tup rfl (gsm_cons hN rfl (Or.inr rfl) (gsm_cons hN rfl (Or.inr rfl) gsm_nil))))
    (ssm_cons (sm_if (tm_not (tm_val (x_blt (b_all T.b_all) (am_cons (em_compN 4 rfl hN ⟨blkOk_by (own := [("one", 7)]) (by first | decide +kernel | rfl), (fun _ _ _ _ _ => gw_name (by decide) hN rfl (Or.inl rfl)), (fun _ _ _ _ _ => tsm_nil), (fun _ _ _ _ _ => (x_blt (b_all T.b_all) (am_cons (em_comp rfl hN (im_any (em_call (x := "steps_of") (params := defArgs (top 30)) (body := defBody (top 30)) (scope := defScope (top 30)) (ps := ["code", "residue"]) (Has.shut h_steps_of) ft.blk (by first | decide | omega) (by rfl) (fun _ _ _ _ _ _ us hl => match us, hl with | [_, _], _ => rfl) (am_cons (x_v 5) (am_cons (x_v 7) am_nil)))) ⟨blkOk_by (own := [("there", 6)]) (by first | decide +kernel | rfl), (fun _ _ _ _ _ => gw_name (by decide) hN rfl (Or.inl rfl)), (fun _ _ _ _ _ => tsm_nil), (fun _ _ _ _ _ => (x_cmp (c_inA ft.blk.blk) (x_v 6) (x_v 4) (by rfl)))⟩) am_nil)))⟩) am_nil)))) (ssm_one (sm_ret x_bool)) ssm_nil)
    (ssm_cons (sm_if (tm_not (tm_val (x_blt (b_all T.b_all) (am_cons (em_comp rfl hN (im_any (em_call (x := "begins_by") (params := defArgs (top 47)) (body := defBody (top 47)) (scope := defScope (top 47)) (ps := ["dictionary"]) (Has.shut h_begins_by) ft (by first | decide | omega) (by rfl) (fun _ _ _ _ _ _ us hl => match us, hl with | [_], _ => rfl) (am_cons (x_v 0) am_nil))) ⟨blkOk_by (own := [("residue", 8), ("one", 7), ("other", 9)]) (by first | decide +kernel | rfl), (fun _ _ _ _ _ => gw_tup rfl (gsw_cons (by decide) hN rfl (Or.inl rfl) (gsw_cons (by decide) hN rfl (Or.inl rfl) (gsw_cons (by decide) hN rfl (Or.inl rfl) gsw_nil)))), (fun _ _ _ _ _ => tsm_nil), (fun _ _ _ _ _ => (x_cmp (c_inA ft.blk) (x_v 8) (x_v 4) (by rfl)))⟩) am_nil)))) (ssm_one (sm_ret x_bool)) ssm_nil)
    (ssm_cons (sm_if (tm_not (tm_val (x_blt (b_all T.b_all) (am_cons (em_compN 4 rfl hN ⟨blkOk_by (own := [("one", 7)]) (by first | decide +kernel | rfl), (fun _ _ _ _ _ => gw_name (by decide) hN rfl (Or.inr rfl)), (fun _ _ _ _ _ => tsm_nil), (fun _ _ _ _ _ => (x_blt (b_all T.b_all) (am_cons (em_compN 5 rfl hN ⟨blkOk_by (own := [("outline", 10)]) (by first | decide +kernel | rfl), (fun _ _ _ _ _ => gw_name (by decide) hN rfl (Or.inl rfl)), (fun _ _ _ _ _ => tsm_nil), (fun _ _ _ _ _ => (x_cmp (c_leA ft.blk.blk) (em_call (x := "alike_on") (params := defArgs (top 55)) (body := defBody (top 55)) (scope := defScope (top 55)) (ps := ["ranks", "residue", "outline"]) (Has.shut h_alike_on) ft.blk.blk (by first | decide | omega) (by rfl) (fun _ _ _ _ _ _ us hl => match us, hl with | [_, _, _], _ => rfl) (am_cons (x_v 4) (am_cons (x_v 7) (am_cons (x_v 10) am_nil)))) (em_ixA ft.blk.blk (x_v 4) (x_v 7) (by intro _ _; rfl) (by intro _ _; rfl)) (by rfl)))⟩) am_nil)))⟩) am_nil)))) (ssm_one (sm_ret x_bool)) ssm_nil)
    (ssm_one (sm_ret (x_blt (b_all T.b_all) (am_cons (em_comp rfl hN (im_any (em_call (x := "starts_by") (params := defArgs (top 56)) (body := defBody (top 56)) (scope := defScope (top 56)) (ps := ["dictionary", "ranks"]) (Has.shut h_starts_by) ft (by first | decide | omega) (by rfl) (fun _ _ _ _ _ _ us hl => match us, hl with | [_, _], _ => rfl) (am_cons (x_v 0) (am_cons (x_v 4) am_nil)))) ⟨blkOk_by (own := [("many", 11), ("one", 7), ("other", 9)]) (by first | decide +kernel | rfl), (fun _ _ _ _ _ => gw_tup rfl (gsw_cons (by decide) hN rfl (Or.inl rfl) (gsw_cons (by decide) hN rfl (Or.inl rfl) (gsw_cons (by decide) hN rfl (Or.inl rfl) gsw_nil)))), (fun _ _ _ _ _ => tsm_nil), (fun _ _ _ _ _ => (x_cmp (c_gtA ft.blk) (x_v 1) (x_v 11) (by rfl)))⟩) am_nil))))))))))
def m_is_ring_7 : SM := mRet (mAndV (mBin fNeA (mV 5) (mTup (mNil))) (mBin fEqA (mApp 3 (mCons (mV 0) (mCons (mV 6) (mCons (mV 5) mNil))) (shutM d_led_by)) (mV 6)))
def m_is_ring_6 : SM := mSeq (mIfS (mOr (mBool (mBin fIs (mV 6) (mK .non))) (mBool (mBin fEqA (mV 6) (mK (txt []))))) (mRet (mAndV (mBin fEqA (mV 6) (mK (txt []))) (mBin fEqA (mV 5) (mTup (mNil))))) (mNext)) m_is_ring_7
def m_is_ring_5 : SM := mSeq (mSet 6 (mApp 3 (mCons (mV 0) (mCons (mSl (mV 3) (mPart (mCall fLenA (mCons (mV 2) mNil))) (mNoPart)) (mCons (mV 4) mNil))) (shutM d_led_by))) m_is_ring_6
def m_is_ring_4 : SM := mSeq (mIfS (mNot (mBool (mStrM fStarts (mV 3) (mCons (mV 2) mNil)))) (mRet (mK (.bl false))) (mNext)) m_is_ring_5
def m_is_ring_3 : SM := mSeq (mIfS (mOr (mNot (mBool (mApp 2 (mCons (mV 0) (mCons (mV 4) mNil)) (shutM d_is_reading_of)))) (mNot (mBool (mApp 2 (mCons (mV 0) (mCons (mV 5) mNil)) (shutM d_is_reading_of))))) (mRet (mK (.bl false))) (mNext)) m_is_ring_4
def m_is_ring_2 : SM := mSeq (mAsg (mSl (mV 1) (mPart (mK (.int 2))) (mNoPart)) (mTupG [4, 5])) m_is_ring_3
def m_is_ring_1 : SM := mSeq (mPar 2 3 (mCons (mBin fIxA (mBin fIxA (mV 0) (mBin fIxA (mV 1) (mK (.int 0)))) (mK (.int 0))) (mCons (mBin fIxA (mBin fIxA (mV 0) (mBin fIxA (mV 1) (mK (.int 1)))) (mK (.int 0))) mNil))) m_is_ring_2
def m_is_ring : SM :=
  mSeq (mIfS (mOr (mNot (mBool (mApp 2 (mCons (mV 1) (mCons (mK (.int 4)) mNil)) (shutM d_is_tuple_of)))) (mOr (mNot (mBool (mApp 3 (mCons (mSl (mV 1) (mNoPart) (mPart (mK (.int 2)))) (mCons (mK (.int 0)) (mCons (mBin fSub (mCall fLenA (mCons (mV 0) mNil)) (mK (.int 1))) mNil))) (shutM d_are_between)))) (mBool (mBin fEqA (mBin fIxA (mV 1) (mK (.int 0))) (mBin fIxA (mV 1) (mK (.int 1))))))) (mRet (mK (.bl false))) (mNext)) m_is_ring_1
def d_is_ring : DM := mFnT 7 m_is_ring
theorem sc_is_ring : FnScope ["dictionary", "value", "first", "second", "before", "around", "here"] ["dictionary", "value"] (defScope (top 63)) := ⟨rfl, rfl, rfl, by decide +kernel, rfl, by decide +kernel, by decide +kernel⟩
theorem ok_is_ring (T : Fx K mg) (h_led_by : HasT P w K mg base 2 48 "led_by" ["dictionary", "residue", "places"] d_led_by) (h_is_tuple_of : HasT P w K mg base 1 11 "is_tuple_of" ["value", "many"] d_is_tuple_of) (h_are_between : HasT P w K mg base 3 10 "are_between" ["value", "low", "high"] d_are_between) (h_is_reading_of : HasT P w K mg base 4 38 "is_reading_of" ["dictionary", "value"] d_is_reading_of) : HasT P w K mg base 5 63 "is_ring" ["dictionary", "value"] d_is_ring := by
  obtain ⟨f, fd, F, hm⟩ := T.f_is_ring
  refine ⟨f, fd, F, hm, runsT (N := ["dictionary", "value", "first", "second", "before", "around", "here"]) (m := m_is_ring) F sc_is_ring fun cdv A outer s H hr hg => ?_⟩
  have ft : Fit (cxOf CX0 P w K mg base ["dictionary", "value", "first", "second", "before", "around", "here"] "is_ring" (defScope (top 63)) f cdv A outer s H E0).nox 4 := ⟨hr, hg⟩
  have hN : (cxOf CX0 P w K mg base ["dictionary", "value", "first", "second", "before", "around", "here"] "is_ring" (defScope (top 63)) f cdv A outer s H E0).nox.N.Nodup := (sc_is_ring).nd
  exact (ssm_cons (sm_if (tm_w (wm_or (tm_not (tm_val (em_call (x := "is_tuple_of") (params := defArgs (top 11)) (body := defBody (top 11)) (scope := defScope (top 11)) (ps := ["value", "many"]) (Has.shut h_is_tuple_of) ft (by first | decide | omega) (by rfl) (fun _ _ _ _ _ _ us hl => match us, hl with | [_, _], _ => rfl) (am_cons (x_v 1) (am_cons (x_gI (T.g_FOUR).choose_spec) am_nil))))) (wm_or (tm_not (tm_val (em_call (x := "are_between") (params := defArgs (top 10)) (body := defBody (top 10)) (scope := defScope (top 10)) (ps := ["value", "low", "high"]) (Has.shut h_are_between) ft (by first | decide | omega) (by rfl) (fun _ _ _ _ _ _ us hl => match us, hl with | [_, _, _], _ => rfl) (am_cons (em_sl (x_v 1) om_none (om_some x_int)) (am_cons x_int (am_cons (x_sub (x_blt (b_lenA T.b_len) (am_cons (x_v 0) am_nil)) x_int) am_nil)))))) (wm_or1 (t_cmp (c_eqA ft) (em_ixA ft (x_v 1) x_int (by intro _ _; rfl) (by intro _ _; rfl)) (em_ixA ft (x_v 1) x_int (by intro _ _; rfl) (by intro _ _; rfl)) (by rfl)))))) (ssm_one (sm_ret x_bool)) ssm_nil)
    (ssm_cons (sm_par (i := 2) (j := 3) rfl hN rfl rfl (by decide) rfl rfl (am_cons (em_ixA ft (em_ixA ft (x_v 0) (em_ixA ft (x_v 1) x_int (by intro _ _; rfl) (by intro _ _; rfl)) (by intro _ _; rfl) (by intro _ _; rfl)) x_int (by intro _ _; rfl) (by intro _ _; rfl)) (am_cons (em_ixA ft (em_ixA ft (x_v 0) (em_ixA ft (x_v 1) x_int (by intro _ _; rfl) (by intro _ _; rfl)) (by intro _ _; rfl) (by intro _ _; rfl)) x_int (by intro _ _; rfl) (by intro _ _; rfl)) am_nil)) (by rfl))
    (ssm_cons (sm_asg (em_sl (x_v 1) (om_some x_int) om_none) (gm_tup rfl (gsm_cons hN rfl (Or.inl rfl) (gsm_cons hN rfl (Or.inl rfl) gsm_nil))))
    (ssm_cons (sm_if (tm_w (wm_or (tm_not (tm_val (em_call (x := "is_reading_of") (params := defArgs (top 38)) (body := defBody (top 38)) (scope := defScope (top 38)) (ps := ["dictionary", "value"]) (Has.shut h_is_reading_of) ft (by first | decide | omega) (by rfl) (fun _ _ _ _ _ _ us hl => match us, hl with | [_, _], _ => rfl) (am_cons (x_v 0) (am_cons (x_v 4) am_nil))))) (wm_or1 (tm_not (tm_val (em_call (x := "is_reading_of") (params := defArgs (top 38)) (body := defBody (top 38)) (scope := defScope (top 38)) (ps := ["dictionary", "value"]) (Has.shut h_is_reading_of) ft (by first | decide | omega) (by rfl) (fun _ _ _ _ _ _ us hl => match us, hl with | [_, _], _ => rfl) (am_cons (x_v 0) (am_cons (x_v 5) am_nil)))))))) (ssm_one (sm_ret x_bool)) ssm_nil)
    (ssm_cons (sm_if (tm_not (tm_val (em_starts (x_v 3) (am_cons (x_v 2) am_nil)))) (ssm_one (sm_ret x_bool)) ssm_nil)
    (ssm_cons (sm_set (i := 6) hN rfl (Or.inl rfl) (em_call (x := "led_by") (params := defArgs (top 48)) (body := defBody (top 48)) (scope := defScope (top 48)) (ps := ["dictionary", "residue", "places"]) (Has.shut h_led_by) ft (by first | decide | omega) (by rfl) (fun _ _ _ _ _ _ us hl => match us, hl with | [_, _, _], _ => rfl) (am_cons (x_v 0) (am_cons (em_sl (x_v 3) (om_some (x_blt (b_lenA T.b_len) (am_cons (x_v 2) am_nil))) om_none) (am_cons (x_v 4) am_nil)))))
    (ssm_cons (sm_if (tm_w (wm_or (t_cmp (c_is) (x_v 6) x_none (by rfl)) (wm_or1 (t_cmp (c_eqA ft) (x_v 6) (x_strL (l := [])) (by rfl))))) (ssm_one (sm_ret (em_and (x_cmp (c_eqA ft) (x_v 6) (x_strL (l := [])) (by rfl)) (em_one (x_cmp (c_eqA ft) (x_v 5) (em_tup am_nil) (by rfl)))))) ssm_nil)
    (ssm_one (sm_ret (em_and (x_cmp (c_neA ft) (x_v 5) (em_tup am_nil) (by rfl)) (em_one (x_cmp (c_eqA ft) (em_call (x := "led_by") (params := defArgs (top 48)) (body := defBody (top 48)) (scope := defScope (top 48)) (ps := ["dictionary", "residue", "places"]) (Has.shut h_led_by) ft (by first | decide | omega) (by rfl) (fun _ _ _ _ _ _ us hl => match us, hl with | [_, _, _], _ => rfl) (am_cons (x_v 0) (am_cons (x_v 6) (am_cons (x_v 5) am_nil)))) (x_v 6) (by rfl)))))))))))))
def m_shows_by : SM :=
  mSeq (mIfS (mOr (mNot (mBool (mCall fIsi (mCons (mV 1) (mCons (mK (.ty "tuple")) mNil))))) (mOr (mBool (mBin fEqA (mV 1) (mTup (mNil)))) (mNot (mBool (mCall fIsi (mCons (mBin fIxA (mV 1) (mK (.int 0))) (mCons (mK (.ty "str")) mNil))))))) (mRet (mK (.bl false))) (mNext))
  (mSeq (mIfS (mBool (mBin fEqA (mBin fIxA (mV 1) (mK (.int 0))) (mK (txt [101, 110, 100, 108, 101, 115, 115])))) (mRet (mAndV (mBin fEqA (mCall fLenA (mCons (mV 1) mNil)) (mK (.int 2))) (mApp 2 (mCons (mV 0) (mCons (mBin fIxA (mV 1) (mK (.int 1))) mNil)) (shutM d_is_ring)))) (mNext))
  (mSeq (mIfS (mOr (mBool (mBin fNeA (mBin fIxA (mV 1) (mK (.int 0))) (mK (txt [104, 101, 97, 114, 100])))) (mOr (mBool (mBin fNeA (mCall fLenA (mCons (mV 1) mNil)) (mK (.int 5)))) (mNot (mBool (mApp 1 (mCons (mBin fIxA (mV 1) (mK (.int 1))) mNil) (shutM d_is_natural)))))) (mRet (mK (.bl false))) (mNext))
  (mSeq (mAsg (mSl (mV 1) (mPart (mK (.int 1))) (mNoPart)) (mTupG [2, 3, 4, 5]))
  (mRet (mAndV (mApp 4 (mCons (mV 0) (mCons (mV 2) (mCons (mV 3) (mCons (mV 4) mNil)))) (shutM d_are_along)) (mApp 3 (mCons (mV 0) (mCons (mV 2) (mCons (mV 5) mNil))) (shutM d_are_ranks)))))))
def d_shows_by : DM := mFnT 6 m_shows_by
theorem sc_shows_by : FnScope ["dictionary", "value", "number", "one", "other", "ranks"] ["dictionary", "value"] (defScope (top 64)) := ⟨rfl, rfl, rfl, by decide +kernel, rfl, by decide +kernel, by decide +kernel⟩
theorem ok_shows_by (T : Fx K mg) (h_are_along : HasT P w K mg base 5 62 "are_along" ["dictionary", "number", "one", "other"] d_are_along) (h_are_ranks : HasT P w K mg base 4 61 "are_ranks" ["dictionary", "number", "value"] d_are_ranks) (h_is_ring : HasT P w K mg base 5 63 "is_ring" ["dictionary", "value"] d_is_ring) (h_is_natural : HasT P w K mg base 2 60 "is_natural" ["value"] d_is_natural) : HasT P w K mg base 6 64 "shows_by" ["dictionary", "value"] d_shows_by := by
  obtain ⟨f, fd, F, hm⟩ := T.f_shows_by
  refine ⟨f, fd, F, hm, runsT (N := ["dictionary", "value", "number", "one", "other", "ranks"]) (m := m_shows_by) F sc_shows_by fun cdv A outer s H hr hg => ?_⟩
  have ft : Fit (cxOf CX0 P w K mg base ["dictionary", "value", "number", "one", "other", "ranks"] "shows_by" (defScope (top 64)) f cdv A outer s H E0).nox 5 := ⟨hr, hg⟩
  have hN : (cxOf CX0 P w K mg base ["dictionary", "value", "number", "one", "other", "ranks"] "shows_by" (defScope (top 64)) f cdv A outer s H E0).nox.N.Nodup := (sc_shows_by).nd
  exact (ssm_cons (sm_if (tm_w (wm_or (tm_not (tm_val (x_blt (b_isinstance T.b_isinstance) (am_cons (x_v 1) (am_cons (x_ty T.b_tuple) am_nil))))) (wm_or (t_cmp (c_eqA ft) (x_v 1) (em_tup am_nil) (by rfl)) (wm_or1 (tm_not (tm_val (x_blt (b_isinstance T.b_isinstance) (am_cons (em_ixA ft (x_v 1) x_int (by intro _ _; rfl) (by intro _ _; rfl)) (am_cons (x_ty T.b_str) am_nil))))))))) (ssm_one (sm_ret x_bool)) ssm_nil)
    (ssm_cons (sm_if (t_cmp (c_eqA ft) (em_ixA ft (x_v 1) x_int (by intro _ _; rfl) (by intro _ _; rfl)) (x_gSL (l := [101, 110, 100, 108, 101, 115, 115]) (T.g_ENDLESS).choose_spec) (by rfl)) (ssm_one (sm_ret (em_and (x_cmp (c_eqA ft) (x_blt (b_lenA T.b_len) (am_cons (x_v 1) am_nil)) x_int (by rfl)) (em_one (em_call (x := "is_ring") (params := defArgs (top 63)) (body := defBody (top 63)) (scope := defScope (top 63)) (ps := ["dictionary", "value"]) (Has.shut h_is_ring) ft (by first | decide | omega) (by rfl) (fun _ _ _ _ _ _ us hl => match us, hl with | [_, _], _ => rfl) (am_cons (x_v 0) (am_cons (em_ixA ft (x_v 1) x_int (by intro _ _; rfl) (by intro _ _; rfl)) am_nil))))))) ssm_nil)
    (ssm_cons (sm_if (tm_w (wm_or (t_cmp (c_neA ft) (em_ixA ft (x_v 1) x_int (by intro _ _; rfl) (by intro _ _; rfl)) (x_gSL (l := [104, 101, 97, 114, 100]) (T.g_HEARD).choose_spec) (by rfl)) (wm_or (t_cmp (c_neA ft) (x_blt (b_lenA T.b_len) (am_cons (x_v 1) am_nil)) (x_gI (T.g_FIVE).choose_spec) (by rfl)) (wm_or1 (tm_not (tm_val (em_call (x := "is_natural") (params := defArgs (top 60)) (body := defBody (top 60)) (scope := defScope (top 60)) (ps := ["value"]) (Has.shut h_is_natural) ft (by first | decide | omega) (by rfl) (fun _ _ _ _ _ _ us hl => match us, hl with | [_], _ => rfl) (am_cons (em_ixA ft (x_v 1) x_int (by intro _ _; rfl) (by intro _ _; rfl)) am_nil)))))))) (ssm_one (sm_ret x_bool)) ssm_nil)
    (ssm_cons (sm_asg (em_sl (x_v 1) (om_some x_int) om_none) (gm_tup rfl (gsm_cons hN rfl (Or.inl rfl) (gsm_cons hN rfl (Or.inl rfl) (gsm_cons hN rfl (Or.inl rfl) (gsm_cons hN rfl (Or.inl rfl) gsm_nil))))))
    (ssm_one (sm_ret (em_and (em_call (x := "are_along") (params := defArgs (top 62)) (body := defBody (top 62)) (scope := defScope (top 62)) (ps := ["dictionary", "number", "one", "other"]) (Has.shut h_are_along) ft (by first | decide | omega) (by rfl) (fun _ _ _ _ _ _ us hl => match us, hl with | [_, _, _, _], _ => rfl) (am_cons (x_v 0) (am_cons (x_v 2) (am_cons (x_v 3) (am_cons (x_v 4) am_nil))))) (em_one (em_call (x := "are_ranks") (params := defArgs (top 61)) (body := defBody (top 61)) (scope := defScope (top 61)) (ps := ["dictionary", "number", "value"]) (Has.shut h_are_ranks) ft (by first | decide | omega) (by rfl) (fun _ _ _ _ _ _ us hl => match us, hl with | [_, _, _], _ => rfl) (am_cons (x_v 0) (am_cons (x_v 2) (am_cons (x_v 5) am_nil))))))))))))
def m_shows_heard : SM :=
  mRet (mApp 2 (mCons (mApp 1 (mCons (mV 0) mNil) (shutM d_check_dictionary)) (mCons (mV 1) mNil)) (shutM d_shows_by))
def d_shows_heard : DM := mFnT 2 m_shows_heard
theorem sc_shows_heard : FnScope ["dictionary", "value"] ["dictionary", "value"] (defScope (top 66)) := ⟨rfl, rfl, rfl, by decide +kernel, rfl, by decide +kernel, by decide +kernel⟩
theorem ok_shows_heard (T : Fx K mg) (h_shows_by : HasT P w K mg base 6 64 "shows_by" ["dictionary", "value"] d_shows_by) (h_check_dictionary : HasT P w K mg base 5 22 "check_dictionary" ["value"] d_check_dictionary) : HasT P w K mg base 7 66 "shows_heard" ["dictionary", "value"] d_shows_heard := by
  obtain ⟨f, fd, F, hm⟩ := T.f_shows_heard
  refine ⟨f, fd, F, hm, runsT (N := ["dictionary", "value"]) (m := m_shows_heard) F sc_shows_heard fun cdv A outer s H hr hg => ?_⟩
  have ft : Fit (cxOf CX0 P w K mg base ["dictionary", "value"] "shows_heard" (defScope (top 66)) f cdv A outer s H E0).nox 6 := ⟨hr, hg⟩
  have hN : (cxOf CX0 P w K mg base ["dictionary", "value"] "shows_heard" (defScope (top 66)) f cdv A outer s H E0).nox.N.Nodup := (sc_shows_heard).nd
  exact (ssm_one (sm_ret (em_call (x := "shows_by") (params := defArgs (top 64)) (body := defBody (top 64)) (scope := defScope (top 64)) (ps := ["dictionary", "value"]) (Has.shut h_shows_by) ft (by first | decide | omega) (by rfl) (fun _ _ _ _ _ _ us hl => match us, hl with | [_, _], _ => rfl) (am_cons (em_call (x := "check_dictionary") (params := defArgs (top 22)) (body := defBody (top 22)) (scope := defScope (top 22)) (ps := ["value"]) (Has.shut h_check_dictionary) ft (by first | decide | omega) (by rfl) (fun _ _ _ _ _ _ us hl => match us, hl with | [_], _ => rfl) (am_cons (x_v 0) am_nil)) (am_cons (x_v 1) am_nil)))))
def m_least_heard : SM :=
  mSeq (mSet 1 (mApp 1 (mCons (mApp 1 (mCons (mV 0) mNil) (shutM d_check_dictionary)) mNil) (shutM d_heard_by)))
  (mRet (mIf (mBool (mBin fEqA (mBin fIxA (mV 1) (mK (.int 0))) (mK (txt [104, 101, 97, 114, 100])))) (mBin fIxA (mV 1) (mK (.int 1))) (mK .non)))
def d_least_heard : DM := mFnT 2 m_least_heard
theorem sc_least_heard : FnScope ["dictionary", "told"] ["dictionary"] (defScope (top 67)) := ⟨rfl, rfl, rfl, by decide +kernel, rfl, by decide +kernel, by decide +kernel⟩
theorem ok_least_heard (T : Fx K mg) (h_heard_by : HasT P w K mg base 6 59 "heard_by" ["dictionary"] d_heard_by) (h_check_dictionary : HasT P w K mg base 5 22 "check_dictionary" ["value"] d_check_dictionary) : HasT P w K mg base 7 67 "least_heard" ["dictionary"] d_least_heard := by
  obtain ⟨f, fd, F, hm⟩ := T.f_least_heard
  refine ⟨f, fd, F, hm, runsT (N := ["dictionary", "told"]) (m := m_least_heard) F sc_least_heard fun cdv A outer s H hr hg => ?_⟩
  have ft : Fit (cxOf CX0 P w K mg base ["dictionary", "told"] "least_heard" (defScope (top 67)) f cdv A outer s H E0).nox 6 := ⟨hr, hg⟩
  have hN : (cxOf CX0 P w K mg base ["dictionary", "told"] "least_heard" (defScope (top 67)) f cdv A outer s H E0).nox.N.Nodup := (sc_least_heard).nd
  exact (ssm_cons (sm_set (i := 1) hN rfl (Or.inl rfl) (em_call (x := "heard_by") (params := defArgs (top 59)) (body := defBody (top 59)) (scope := defScope (top 59)) (ps := ["dictionary"]) (Has.shut h_heard_by) ft (by first | decide | omega) (by rfl) (fun _ _ _ _ _ _ us hl => match us, hl with | [_], _ => rfl) (am_cons (em_call (x := "check_dictionary") (params := defArgs (top 22)) (body := defBody (top 22)) (scope := defScope (top 22)) (ps := ["value"]) (Has.shut h_check_dictionary) ft (by first | decide | omega) (by rfl) (fun _ _ _ _ _ _ us hl => match us, hl with | [_], _ => rfl) (am_cons (x_v 0) am_nil)) am_nil)))
    (ssm_one (sm_ret (em_ifExp (t_cmp (c_eqA ft) (em_ixA ft (x_v 1) x_int (by intro _ _; rfl) (by intro _ _; rfl)) (x_gSL (l := [104, 101, 97, 114, 100]) (T.g_HEARD).choose_spec) (by rfl)) (em_ixA ft (x_v 1) x_int (by intro _ _; rfl) (by intro _ _; rfl)) x_none))))
def m__law_is_right : SM :=
  mSeq (mSet 2 (mApp 1 (mCons (mV 0) mNil) (shutM d_heard_told)))
  (mSeq (mIfS (mOr (mBool (mBin fNeA (mCall fRepr (mCons (mApp 1 (mCons (mV 0) mNil) (shutM d_least_heard)) mNil)) (mCall fRepr (mCons (mV 1) mNil)))) (mBool (mBin fIsNot (mApp 2 (mCons (mV 0) (mCons (mV 2) mNil)) (shutM d_shows_heard)) (mK (.bl true))))) (mRet (mK (.bl false))) (mNext))
  (mRet (mBin fEqA (mBin fIxA (mV 2) (mK (.int 0))) (mIf (mBool (mBin fIs (mV 1) (mK .non))) (mK (txt [101, 110, 100, 108, 101, 115, 115])) (mK (txt [104, 101, 97, 114, 100]))))))
def d__law_is_right : DM := mFnT 3 m__law_is_right
theorem sc__law_is_right : FnScope ["dictionary", "number", "told"] ["dictionary", "number"] (defScope (top 78)) := ⟨rfl, rfl, rfl, by decide +kernel, rfl, by decide +kernel, by decide +kernel⟩
theorem ok__law_is_right (T : Fx K mg) (h_heard_told : HasT P w K mg base 7 65 "heard_told" ["dictionary"] d_heard_told) (h_shows_heard : HasT P w K mg base 7 66 "shows_heard" ["dictionary", "value"] d_shows_heard) (h_least_heard : HasT P w K mg base 7 67 "least_heard" ["dictionary"] d_least_heard) : HasT P w K mg base 8 78 "_law_is_right" ["dictionary", "number"] d__law_is_right := by
  obtain ⟨f, fd, F, hm⟩ := T.f__law_is_right
  refine ⟨f, fd, F, hm, runsT (N := ["dictionary", "number", "told"]) (m := m__law_is_right) F sc__law_is_right fun cdv A outer s H hr hg => ?_⟩
  have ft : Fit (cxOf CX0 P w K mg base ["dictionary", "number", "told"] "_law_is_right" (defScope (top 78)) f cdv A outer s H E0).nox 7 := ⟨hr, hg⟩
  have hN : (cxOf CX0 P w K mg base ["dictionary", "number", "told"] "_law_is_right" (defScope (top 78)) f cdv A outer s H E0).nox.N.Nodup := (sc__law_is_right).nd
  exact (ssm_cons (sm_set (i := 2) hN rfl (Or.inl rfl) (em_call (x := "heard_told") (params := defArgs (top 65)) (body := defBody (top 65)) (scope := defScope (top 65)) (ps := ["dictionary"]) (Has.shut h_heard_told) ft (by first | decide | omega) (by rfl) (fun _ _ _ _ _ _ us hl => match us, hl with | [_], _ => rfl) (am_cons (x_v 0) am_nil)))
    (ssm_cons (sm_if (tm_w (wm_or (t_cmp (c_neA ft) (x_blt (b_repr ft T.b_repr) (am_cons (em_call (x := "least_heard") (params := defArgs (top 67)) (body := defBody (top 67)) (scope := defScope (top 67)) (ps := ["dictionary"]) (Has.shut h_least_heard) ft (by first | decide | omega) (by rfl) (fun _ _ _ _ _ _ us hl => match us, hl with | [_], _ => rfl) (am_cons (x_v 0) am_nil)) am_nil)) (x_blt (b_repr ft T.b_repr) (am_cons (x_v 1) am_nil)) (by rfl)) (wm_or1 (t_cmp (c_isNot) (em_call (x := "shows_heard") (params := defArgs (top 66)) (body := defBody (top 66)) (scope := defScope (top 66)) (ps := ["dictionary", "value"]) (Has.shut h_shows_heard) ft (by first | decide | omega) (by rfl) (fun _ _ _ _ _ _ us hl => match us, hl with | [_, _], _ => rfl) (am_cons (x_v 0) (am_cons (x_v 2) am_nil))) x_bool (by rfl))))) (ssm_one (sm_ret x_bool)) ssm_nil)
    (ssm_one (sm_ret (x_cmp (c_eqA ft) (em_ixA ft (x_v 2) x_int (by intro _ _; rfl) (by intro _ _; rfl)) (em_ifExp (t_cmp (c_is) (x_v 1) x_none (by rfl)) (x_strL (l := [101, 110, 100, 108, 101, 115, 115])) (x_strL (l := [104, 101, 97, 114, 100]))) (by rfl))))))
def m_is_row_of : SM :=
  mRet (mApp 3 (mCons (mV 0) (mCons (mK (.int 0)) (mCons (mK (.int 2000)) mNil))) (shutM d_is_signs))
def d_is_row_of : DM := mFnT 1 m_is_row_of
theorem sc_is_row_of : FnScope ["value"] ["value"] (defScope (top 15)) := ⟨rfl, rfl, rfl, by decide +kernel, rfl, by decide +kernel, by decide +kernel⟩
theorem ok_is_row_of (T : Fx K mg) (h_is_signs : HasT P w K mg base 2 14 "is_signs" ["value", "low", "high"] d_is_signs) : HasT P w K mg base 3 15 "is_row_of" ["value"] d_is_row_of := by
  obtain ⟨f, fd, F, hm⟩ := T.f_is_row_of
  refine ⟨f, fd, F, hm, runsT (N := ["value"]) (m := m_is_row_of) F sc_is_row_of fun cdv A outer s H hr hg => ?_⟩
  have ft : Fit (cxOf CX0 P w K mg base ["value"] "is_row_of" (defScope (top 15)) f cdv A outer s H E0).nox 2 := ⟨hr, hg⟩
  have hN : (cxOf CX0 P w K mg base ["value"] "is_row_of" (defScope (top 15)) f cdv A outer s H E0).nox.N.Nodup := (sc_is_row_of).nd
  exact (ssm_one (sm_ret (em_call (x := "is_signs") (params := defArgs (top 14)) (body := defBody (top 14)) (scope := defScope (top 14)) (ps := ["value", "low", "high"]) (Has.shut h_is_signs) ft (by first | decide | omega) (by rfl) (fun _ _ _ _ _ _ us hl => match us, hl with | [_, _, _], _ => rfl) (am_cons (x_v 0) (am_cons x_int (am_cons (x_gI (T.g_MOST_ROW).choose_spec) am_nil))))))
def m_check_row : SM :=
  mIfS (mNot (mBool (mApp 1 (mCons (mV 0) mNil) (shutM d_is_row_of)))) (mNever) (mNext)
def d_check_row : DM := mFnT 1 m_check_row
theorem sc_check_row : FnScope ["row"] ["row"] (defScope (top 36)) := ⟨rfl, rfl, rfl, by decide +kernel, rfl, by decide +kernel, by decide +kernel⟩
theorem ok_check_row (T : Fx K mg) (h_is_row_of : HasT P w K mg base 3 15 "is_row_of" ["value"] d_is_row_of) : HasT P w K mg base 4 36 "check_row" ["row"] d_check_row := by
  obtain ⟨f, fd, F, hm⟩ := T.f_check_row
  refine ⟨f, fd, F, hm, runsT (N := ["row"]) (m := m_check_row) F sc_check_row fun cdv A outer s H hr hg => ?_⟩
  have ft : Fit (cxOf CX0 P w K mg base ["row"] "check_row" (defScope (top 36)) f cdv A outer s H E0).nox 3 := ⟨hr, hg⟩
  have hN : (cxOf CX0 P w K mg base ["row"] "check_row" (defScope (top 36)) f cdv A outer s H E0).nox.N.Nodup := (sc_check_row).nd
  exact (ssm_one (sm_if (tm_not (tm_val (em_call (x := "is_row_of") (params := defArgs (top 15)) (body := defBody (top 15)) (scope := defScope (top 15)) (ps := ["value"]) (Has.shut h_is_row_of) ft (by first | decide | omega) (by rfl) (fun _ _ _ _ _ _ us hl => match us, hl with | [_], _ => rfl) (am_cons (x_v 0) am_nil)))) (ssm_one sm_never) ssm_nil))
def m_check_read : SM :=
  mSeq (mExpr (mApp 1 (mCons (mV 0) mNil) (shutM d_check_dictionary)))
  (mExpr (mApp 1 (mCons (mV 1) mNil) (shutM d_check_row)))
def d_check_read : DM := mFnT 2 m_check_read
theorem sc_check_read : FnScope ["dictionary", "row"] ["dictionary", "row"] (defScope (top 37)) := ⟨rfl, rfl, rfl, by decide +kernel, rfl, by decide +kernel, by decide +kernel⟩
theorem ok_check_read (T : Fx K mg) (h_check_dictionary : HasT P w K mg base 5 22 "check_dictionary" ["value"] d_check_dictionary) (h_check_row : HasT P w K mg base 4 36 "check_row" ["row"] d_check_row) : HasT P w K mg base 6 37 "check_read" ["dictionary", "row"] d_check_read := by
  obtain ⟨f, fd, F, hm⟩ := T.f_check_read
  refine ⟨f, fd, F, hm, runsT (N := ["dictionary", "row"]) (m := m_check_read) F sc_check_read fun cdv A outer s H hr hg => ?_⟩
  have ft : Fit (cxOf CX0 P w K mg base ["dictionary", "row"] "check_read" (defScope (top 37)) f cdv A outer s H E0).nox 5 := ⟨hr, hg⟩
  have hN : (cxOf CX0 P w K mg base ["dictionary", "row"] "check_read" (defScope (top 37)) f cdv A outer s H E0).nox.N.Nodup := (sc_check_read).nd
  exact (ssm_cons (sm_expr (em_call (x := "check_dictionary") (params := defArgs (top 22)) (body := defBody (top 22)) (scope := defScope (top 22)) (ps := ["value"]) (Has.shut h_check_dictionary) ft (by first | decide | omega) (by rfl) (fun _ _ _ _ _ _ us hl => match us, hl with | [_], _ => rfl) (am_cons (x_v 0) am_nil)))
    (ssm_one (sm_expr (em_call (x := "check_row") (params := defArgs (top 36)) (body := defBody (top 36)) (scope := defScope (top 36)) (ps := ["row"]) (Has.shut h_check_row) ft (by first | decide | omega) (by rfl) (fun _ _ _ _ _ _ us hl => match us, hl with | [_], _ => rfl) (am_cons (x_v 1) am_nil)))))
def m_entries_at : SM :=
  mRet (mComp (mEnumA (mCons (mV 0) mNil)) (bTup [3, 4]) (mBool (mStrM fStarts (mV 1) (mCons (mBin fIxA (mV 4) (mK (.int 0))) (mCons (mV 2) mNil)))) (mV 3) [3, 4])
def d_entries_at : DM := mFnT 5 m_entries_at
theorem sc_entries_at : FnScope ["dictionary", "row", "place", "number", "entry"] ["dictionary", "row", "place"] (defScope (top 40)) := ⟨rfl, rfl, rfl, by decide +kernel, rfl, by decide +kernel, by decide +kernel⟩
theorem ok_entries_at (T : Fx K mg) : HasT P w K mg base 1 40 "entries_at" ["dictionary", "row", "place"] d_entries_at := by
  obtain ⟨f, fd, F, hm⟩ := T.f_entries_at
  refine ⟨f, fd, F, hm, runsT (N := ["dictionary", "row", "place", "number", "entry"]) (m := m_entries_at) F sc_entries_at fun cdv A outer s H hr hg => ?_⟩
  have ft : Fit (cxOf CX0 P w K mg base ["dictionary", "row", "place", "number", "entry"] "entries_at" (defScope (top 40)) f cdv A outer s H E0).nox 0 := ⟨hr, hg⟩
  have hN : (cxOf CX0 P w K mg base ["dictionary", "row", "place", "number", "entry"] "entries_at" (defScope (top 40)) f cdv A outer s H E0).nox.N.Nodup := (sc_entries_at).nd
  exact (ssm_one (sm_ret (em_comp rfl hN (im_enumA (by rfl) T.b_enumerate (am_cons (x_v 0) am_nil)) ⟨blkOk_by (own := [("number", 3), ("entry", 4)]) (by first | decide +kernel | rfl), (fun _ _ _ _ _ => gw_tup rfl (gsw_cons (by decide) hN rfl (Or.inl rfl) (gsw_cons (by decide) hN rfl (Or.inl rfl) gsw_nil))), (fun _ _ _ _ _ => tsm_one (tm_val (em_starts (x_v 1) (am_cons (em_ixA ft.blk (x_v 4) x_int (by intro _ _; rfl) (by intro _ _; rfl)) (am_cons (x_v 2) am_nil))))), (fun _ _ _ _ _ => (x_v 3))⟩)))
def m_come_to : SM :=
  mSeq (mSet 2 (mBin fAddC (mLst (mCons (mK (.bl true)) mNil)) (mBin fMul (mLst (mCons (mK (.bl false)) mNil)) (mCall fLenA (mCons (mV 1) mNil)))))
  (mSeq (mFor (mRng1 (mCons (mCall fLenA (mCons (mV 1) mNil)) mNil)) (mName 3) (mIfS (mBool (mBin fIxA (mV 2) (mV 3))) (mFor (mIter (mApp 3 (mCons (mV 0) (mCons (mV 1) (mCons (mV 3) mNil))) (shutM d_entries_at))) (mName 4) (mAsg (mK (.bl true)) (mSubA (mV 2) (mBin fAdd (mV 3) (mCall fLenA (mCons (mBin fIxA (mBin fIxA (mV 0) (mV 4)) (mK (.int 0))) mNil)))))) (mNext)))
  (mRet (mV 2)))
def d_come_to : DM := mFnT 5 m_come_to
theorem sc_come_to : FnScope ["dictionary", "row", "found", "place", "number"] ["dictionary", "row"] (defScope (top 41)) := ⟨rfl, rfl, rfl, by decide +kernel, rfl, by decide +kernel, by decide +kernel⟩
theorem ok_come_to (T : Fx K mg) (h_entries_at : HasT P w K mg base 1 40 "entries_at" ["dictionary", "row", "place"] d_entries_at) : HasT P w K mg base 2 41 "come_to" ["dictionary", "row"] d_come_to := by
  obtain ⟨f, fd, F, hm⟩ := T.f_come_to
  refine ⟨f, fd, F, hm, runsT (N := ["dictionary", "row", "found", "place", "number"]) (m := m_come_to) F sc_come_to fun cdv A outer s H hr hg => ?_⟩
  have ft : Fit (cxOf CX0 P w K mg base ["dictionary", "row", "found", "place", "number"] "come_to" (defScope (top 41)) f cdv A outer s H E0).nox 1 := ⟨hr, hg⟩
  have hN : (cxOf CX0 P w K mg base ["dictionary", "row", "found", "place", "number"] "come_to" (defScope (top 41)) f cdv A outer s H E0).nox.N.Nodup := (sc_come_to).nd
  exact (ssm_cons (sm_set (i := 2) hN rfl (Or.inl rfl) (x_addC (em_lst (am_cons x_bool am_nil)) (x_mul (em_lst (am_cons x_bool am_nil)) (x_blt (b_lenA T.b_len) (am_cons (x_v 1) am_nil)))))
    (ssm_cons (sm_for PassesOwn.never rfl (im_rng1 (by rfl) T.b_range (am_cons (x_blt (b_lenA T.b_len) (am_cons (x_v 1) am_nil)) am_nil)) (gm_name hN rfl (Or.inl rfl)) (ssm_one (sm_if (tm_val (em_ixA ft (x_v 2) (x_v 3) (by intro _ _; rfl) (by intro _ _; rfl))) (ssm_one (sm_for PassesOwn.never rfl (im_any (em_call (x := "entries_at") (params := defArgs (top 40)) (body := defBody (top 40)) (scope := defScope (top 40)) (ps := ["dictionary", "row", "place"]) (Has.shut h_entries_at) ft (by first | decide | omega) (by rfl) (fun _ _ _ _ _ _ us hl => match us, hl with | [_, _, _], _ => rfl) (am_cons (x_v 0) (am_cons (x_v 1) (am_cons (x_v 3) am_nil))))) (gm_name hN rfl (Or.inl rfl)) (ssm_one (sm_asg x_bool (gm_subA ft (x_v 2) (x_add (x_v 3) (x_blt (b_lenA T.b_len) (am_cons (em_ixA ft (em_ixA ft (x_v 0) (x_v 4) (by intro _ _; rfl) (by intro _ _; rfl)) x_int (by intro _ _; rfl) (by intro _ _; rfl)) am_nil)))))))) ssm_nil)))
    (ssm_one (sm_ret (x_v 2)))))
def m_longest_on : SM :=
  mSeq (mSet 2 (mK (.int 0)))
  (mSeq (mFor (mEnumA (mCons (mApp 2 (mCons (mV 0) (mCons (mV 1) mNil)) (shutM d_come_to)) mNil)) (mTupG [3, 4]) (mIfS (mBool (mV 4)) (mSeq (mSet 5 (mComp (mIter (mV 0)) (bTup [6, 7]) (mYes) (mApp 2 (mCons (mSl (mV 1) (mPart (mV 3)) (mPart (mBin fAdd (mV 3) (mCall fLenA (mCons (mV 6) mNil))))) (mCons (mV 6) mNil)) (shutM d_common_many)) [6, 7]))
  (mSet 2 (mCall fMaxB (mCons (mLst (mCons (mV 2) (mStarA (mCompN 5 (bName 8) (mYes) (mBin fAdd (mV 3) (mV 8)) [8]) mNil))) mNil)))) (mNext)))
  (mRet (mV 2)))
def d_longest_on : DM := mFnT 9 m_longest_on
theorem sc_longest_on : FnScope ["dictionary", "row", "found", "place", "is_there", "some", "outline", "text", "many"] ["dictionary", "row"] (defScope (top 69)) := ⟨rfl, rfl, rfl, by decide +kernel, rfl, by decide +kernel, by decide +kernel⟩
theorem ok_longest_on (T : Fx K mg) (h_come_to : HasT P w K mg base 2 41 "come_to" ["dictionary", "row"] d_come_to) (h_common_many : HasT P w K mg base 1 27 "common_many" ["one", "other"] d_common_many) : HasT P w K mg base 3 69 "longest_on" ["dictionary", "row"] d_longest_on := by
  obtain ⟨f, fd, F, hm⟩ := T.f_longest_on
  refine ⟨f, fd, F, hm, runsT (N := ["dictionary", "row", "found", "place", "is_there", "some", "outline", "text", "many"]) (m := m_longest_on) F sc_longest_on fun cdv A outer s H hr hg => ?_⟩
  have ft : Fit (cxOf CX0 P w K mg base ["dictionary", "row", "found", "place", "is_there", "some", "outline", "text", "many"] "longest_on" (defScope (top 69)) f cdv A outer s H E0).nox 2 := ⟨hr, hg⟩
  have hN : (cxOf CX0 P w K mg base ["dictionary", "row", "found", "place", "is_there", "some", "outline", "text", "many"] "longest_on" (defScope (top 69)) f cdv A outer s H E0).nox.N.Nodup := (sc_longest_on).nd
  exact (ssm_cons (sm_set (i := 2) hN rfl (Or.inl rfl) x_int)
    (ssm_cons (sm_for PassesOwn.never rfl (im_enumA (by rfl) T.b_enumerate (am_cons (em_call (x := "come_to") (params := defArgs (top 41)) (body := defBody (top 41)) (scope := defScope (top 41)) (ps := ["dictionary", "row"]) (Has.shut h_come_to) ft (by first | decide | omega) (by rfl) (fun _ _ _ _ _ _ us hl => match us, hl with | [_, _], _ => rfl) (am_cons (x_v 0) (am_cons (x_v 1) am_nil))) am_nil)) (gm_tup rfl (gsm_cons hN rfl (Or.inr rfl) (gsm_cons hN rfl (Or.inl rfl) gsm_nil))) (ssm_one (sm_if (tm_val (x_v 4)) (ssm_cons (sm_comp (i := 5) rfl hN rfl rfl (im_any (x_v 0)) ⟨blkOk_by (own := [("outline", 6), ("text", 7)]) (by first | decide +kernel | rfl), (fun _ _ _ _ _ => gw_tup rfl (gsw_cons (by decide) hN rfl (Or.inl rfl) (gsw_cons (by decide) hN rfl (Or.inl rfl) gsw_nil))), (fun _ _ _ _ _ => tsm_nil), (fun _ _ _ _ _ => (em_call (x := "common_many") (params := defArgs (top 27)) (body := defBody (top 27)) (scope := defScope (top 27)) (ps := ["one", "other"]) (Has.shut h_common_many) ft.blk (by first | decide | omega) (by rfl) (fun _ _ _ _ _ _ us hl => match us, hl with | [_, _], _ => rfl) (am_cons (em_sl (x_v 1) (om_some (x_v 3)) (om_some (x_add (x_v 3) (x_blt (b_lenA T.b_len) (am_cons (x_v 6) am_nil))))) (am_cons (x_v 6) am_nil))))⟩ (sw_true rfl rfl rfl (by decide +kernel)))
    (ssm_one (sm_set (i := 2) hN rfl (Or.inl rfl) (x_blt (b_maxB ft T.b_max) (am_cons (em_lst (am_cons (x_v 2) (am_star (em_compN 5 rfl hN ⟨blkOk_by (own := [("many", 8)]) (by first | decide +kernel | rfl), (fun _ _ _ _ _ => gw_name (by decide) hN rfl (Or.inl rfl)), (fun _ _ _ _ _ => tsm_nil), (fun _ _ _ _ _ => (x_add (x_v 3) (x_v 8)))⟩) am_nil))) am_nil))))) ssm_nil)))
    (ssm_one (sm_ret (x_v 2)))))
def m_longest_with : SM :=
  mSeq (mSet 3 (mBin fIxA (mBin fIxA (mV 0) (mV 2)) (mK (.int 0))))
  (mSeq (mIfS (mNot (mBool (mStrM fStarts (mV 1) (mCons (mV 3) mNil)))) (mRet (mApp 2 (mCons (mV 1) (mCons (mV 3) mNil)) (shutM d_common_many))) (mNext))
  (mRet (mBin fAdd (mCall fLenA (mCons (mV 3) mNil)) (mApp 2 (mCons (mV 0) (mCons (mSl (mV 1) (mPart (mCall fLenA (mCons (mV 3) mNil))) (mNoPart)) mNil)) (shutM d_longest_on)))))
def d_longest_with : DM := mFnT 4 m_longest_with
theorem sc_longest_with : FnScope ["dictionary", "row", "place", "outline"] ["dictionary", "row", "place"] (defScope (top 70)) := ⟨rfl, rfl, rfl, by decide +kernel, rfl, by decide +kernel, by decide +kernel⟩
theorem ok_longest_with (T : Fx K mg) (h_common_many : HasT P w K mg base 1 27 "common_many" ["one", "other"] d_common_many) (h_longest_on : HasT P w K mg base 3 69 "longest_on" ["dictionary", "row"] d_longest_on) : HasT P w K mg base 4 70 "longest_with" ["dictionary", "row", "place"] d_longest_with := by
  obtain ⟨f, fd, F, hm⟩ := T.f_longest_with
  refine ⟨f, fd, F, hm, runsT (N := ["dictionary", "row", "place", "outline"]) (m := m_longest_with) F sc_longest_with fun cdv A outer s H hr hg => ?_⟩
  have ft : Fit (cxOf CX0 P w K mg base ["dictionary", "row", "place", "outline"] "longest_with" (defScope (top 70)) f cdv A outer s H E0).nox 3 := ⟨hr, hg⟩
  have hN : (cxOf CX0 P w K mg base ["dictionary", "row", "place", "outline"] "longest_with" (defScope (top 70)) f cdv A outer s H E0).nox.N.Nodup := (sc_longest_with).nd
  exact (ssm_cons (sm_set (i := 3) hN rfl (Or.inl rfl) (em_ixA ft (em_ixA ft (x_v 0) (x_v 2) (by intro _ _; rfl) (by intro _ _; rfl)) x_int (by intro _ _; rfl) (by intro _ _; rfl)))
    (ssm_cons (sm_if (tm_not (tm_val (em_starts (x_v 1) (am_cons (x_v 3) am_nil)))) (ssm_one (sm_ret (em_call (x := "common_many") (params := defArgs (top 27)) (body := defBody (top 27)) (scope := defScope (top 27)) (ps := ["one", "other"]) (Has.shut h_common_many) ft (by first | decide | omega) (by rfl) (fun _ _ _ _ _ _ us hl => match us, hl with | [_, _], _ => rfl) (am_cons (x_v 1) (am_cons (x_v 3) am_nil))))) ssm_nil)
    (ssm_one (sm_ret (x_add (x_blt (b_lenA T.b_len) (am_cons (x_v 3) am_nil)) (em_call (x := "longest_on") (params := defArgs (top 69)) (body := defBody (top 69)) (scope := defScope (top 69)) (ps := ["dictionary", "row"]) (Has.shut h_longest_on) ft (by first | decide | omega) (by rfl) (fun _ _ _ _ _ _ us hl => match us, hl with | [_, _], _ => rfl) (am_cons (x_v 0) (am_cons (em_sl (x_v 1) (om_some (x_blt (b_lenA T.b_len) (am_cons (x_v 3) am_nil))) om_none) am_nil))))))))
def m_longest_each : SM :=
  mRet (mComp (mRng1 (mCons (mCall fLenA (mCons (mV 0) mNil)) mNil)) (bName 2) (mYes) (mApp 3 (mCons (mV 0) (mCons (mV 1) (mCons (mV 2) mNil))) (shutM d_longest_with)) [2])
def d_longest_each : DM := mFnT 3 m_longest_each
theorem sc_longest_each : FnScope ["dictionary", "row", "place"] ["dictionary", "row"] (defScope (top 71)) := ⟨rfl, rfl, rfl, by decide +kernel, rfl, by decide +kernel, by decide +kernel⟩
theorem ok_longest_each (T : Fx K mg) (h_longest_with : HasT P w K mg base 4 70 "longest_with" ["dictionary", "row", "place"] d_longest_with) : HasT P w K mg base 5 71 "longest_each" ["dictionary", "row"] d_longest_each := by
  obtain ⟨f, fd, F, hm⟩ := T.f_longest_each
  refine ⟨f, fd, F, hm, runsT (N := ["dictionary", "row", "place"]) (m := m_longest_each) F sc_longest_each fun cdv A outer s H hr hg => ?_⟩
  have ft : Fit (cxOf CX0 P w K mg base ["dictionary", "row", "place"] "longest_each" (defScope (top 71)) f cdv A outer s H E0).nox 4 := ⟨hr, hg⟩
  have hN : (cxOf CX0 P w K mg base ["dictionary", "row", "place"] "longest_each" (defScope (top 71)) f cdv A outer s H E0).nox.N.Nodup := (sc_longest_each).nd
  exact (ssm_one (sm_ret (em_comp rfl hN (im_rng1 (by rfl) T.b_range (am_cons (x_blt (b_lenA T.b_len) (am_cons (x_v 0) am_nil)) am_nil)) ⟨blkOk_by (own := [("place", 2)]) (by first | decide +kernel | rfl), (fun _ _ _ _ _ => gw_name (by decide) hN rfl (Or.inl rfl)), (fun _ _ _ _ _ => tsm_nil), (fun _ _ _ _ _ => (em_call (x := "longest_with") (params := defArgs (top 70)) (body := defBody (top 70)) (scope := defScope (top 70)) (ps := ["dictionary", "row", "place"]) (Has.shut h_longest_with) ft.blk (by first | decide | omega) (by rfl) (fun _ _ _ _ _ _ us hl => match us, hl with | [_, _, _], _ => rfl) (am_cons (x_v 0) (am_cons (x_v 1) (am_cons (x_v 2) am_nil)))))⟩)))
def m_firsts_of : SM :=
  mSeq (mExpr (mApp 2 (mCons (mV 0) (mCons (mV 1) mNil)) (shutM d_check_read)))
  (mRet (mCall fTuple (mCons (mComp (mEnumA (mCons (mApp 2 (mCons (mV 0) (mCons (mV 1) mNil)) (shutM d_longest_each)) mNil)) (bTup [2, 3]) (mBool (mBin fEqA (mV 3) (mCall fLenA (mCons (mV 1) mNil)))) (mV 2) [2, 3]) mNil)))
def d_firsts_of : DM := mFnT 4 m_firsts_of
theorem sc_firsts_of : FnScope ["dictionary", "row", "place", "many"] ["dictionary", "row"] (defScope (top 72)) := ⟨rfl, rfl, rfl, by decide +kernel, rfl, by decide +kernel, by decide +kernel⟩
theorem ok_firsts_of (T : Fx K mg) (h_check_read : HasT P w K mg base 6 37 "check_read" ["dictionary", "row"] d_check_read) (h_longest_each : HasT P w K mg base 5 71 "longest_each" ["dictionary", "row"] d_longest_each) : HasT P w K mg base 7 72 "firsts_of" ["dictionary", "row"] d_firsts_of := by
  obtain ⟨f, fd, F, hm⟩ := T.f_firsts_of
  refine ⟨f, fd, F, hm, runsT (N := ["dictionary", "row", "place", "many"]) (m := m_firsts_of) F sc_firsts_of fun cdv A outer s H hr hg => ?_⟩
  have ft : Fit (cxOf CX0 P w K mg base ["dictionary", "row", "place", "many"] "firsts_of" (defScope (top 72)) f cdv A outer s H E0).nox 6 := ⟨hr, hg⟩
  have hN : (cxOf CX0 P w K mg base ["dictionary", "row", "place", "many"] "firsts_of" (defScope (top 72)) f cdv A outer s H E0).nox.N.Nodup := (sc_firsts_of).nd
  exact (ssm_cons (sm_expr (em_call (x := "check_read") (params := defArgs (top 37)) (body := defBody (top 37)) (scope := defScope (top 37)) (ps := ["dictionary", "row"]) (Has.shut h_check_read) ft (by first | decide | omega) (by rfl) (fun _ _ _ _ _ _ us hl => match us, hl with | [_, _], _ => rfl) (am_cons (x_v 0) (am_cons (x_v 1) am_nil))))
    (ssm_one (sm_ret (x_blt (b_tuple T.b_tuple) (am_cons (em_comp rfl hN (im_enumA (by rfl) T.b_enumerate (am_cons (em_call (x := "longest_each") (params := defArgs (top 71)) (body := defBody (top 71)) (scope := defScope (top 71)) (ps := ["dictionary", "row"]) (Has.shut h_longest_each) ft (by first | decide | omega) (by rfl) (fun _ _ _ _ _ _ us hl => match us, hl with | [_, _], _ => rfl) (am_cons (x_v 0) (am_cons (x_v 1) am_nil))) am_nil)) ⟨blkOk_by (own := [("place", 2), ("many", 3)]) (by first | decide +kernel | rfl), (fun _ _ _ _ _ => gw_tup rfl (gsw_cons (by decide) hN rfl (Or.inl rfl) (gsw_cons (by decide) hN rfl (Or.inl rfl) gsw_nil))), (fun _ _ _ _ _ => tsm_one (t_cmp (c_eqA ft.blk) (x_v 3) (x_blt (b_lenA T.b_len) (am_cons (x_v 1) am_nil)) (by rfl))), (fun _ _ _ _ _ => (x_v 2))⟩) am_nil)))))
def m_decided_at : SM :=
  mSeq (mExpr (mApp 2 (mCons (mV 0) (mCons (mV 1) mNil)) (shutM d_check_read)))
  (mSeq (mSet 2 (mCall fSortedC (mCons (mApp 2 (mCons (mV 0) (mCons (mV 1) mNil)) (shutM d_longest_each)) mNil)))
  (mSeq (mIfS (mBool (mBin fEqA (mCall fLenA (mCons (mV 2) mNil)) (mK (.int 1)))) (mRet (mK (.int 0))) (mNext))
  (mRet (mIf (mBool (mBin fLtA (mBin fIxA (mV 2) (mUn fNeg (mK (.int 2)))) (mCall fLenA (mCons (mV 1) mNil)))) (mBin fAdd (mBin fIxA (mV 2) (mUn fNeg (mK (.int 2)))) (mK (.int 1))) (mK .non)))))
def d_decided_at : DM := mFnT 3 m_decided_at
theorem sc_decided_at : FnScope ["dictionary", "row", "many"] ["dictionary", "row"] (defScope (top 73)) := ⟨rfl, rfl, rfl, by decide +kernel, rfl, by decide +kernel, by decide +kernel⟩
theorem ok_decided_at (T : Fx K mg) (h_check_read : HasT P w K mg base 6 37 "check_read" ["dictionary", "row"] d_check_read) (h_longest_each : HasT P w K mg base 5 71 "longest_each" ["dictionary", "row"] d_longest_each) : HasT P w K mg base 7 73 "decided_at" ["dictionary", "row"] d_decided_at := by
  obtain ⟨f, fd, F, hm⟩ := T.f_decided_at
  refine ⟨f, fd, F, hm, runsT (N := ["dictionary", "row", "many"]) (m := m_decided_at) F sc_decided_at fun cdv A outer s H hr hg => ?_⟩
  have ft : Fit (cxOf CX0 P w K mg base ["dictionary", "row", "many"] "decided_at" (defScope (top 73)) f cdv A outer s H E0).nox 6 := ⟨hr, hg⟩
  have hN : (cxOf CX0 P w K mg base ["dictionary", "row", "many"] "decided_at" (defScope (top 73)) f cdv A outer s H E0).nox.N.Nodup := (sc_decided_at).nd
  exact (ssm_cons (sm_expr (em_call (x := "check_read") (params := defArgs (top 37)) (body := defBody (top 37)) (scope := defScope (top 37)) (ps := ["dictionary", "row"]) (Has.shut h_check_read) ft (by first | decide | omega) (by rfl) (fun _ _ _ _ _ _ us hl => match us, hl with | [_, _], _ => rfl) (am_cons (x_v 0) (am_cons (x_v 1) am_nil))))
    (ssm_cons (sm_set (i := 2) hN rfl (Or.inl rfl) (x_blt (b_sortedC ft T.b_sorted) (am_cons (em_call (x := "longest_each") (params := defArgs (top 71)) (body := defBody (top 71)) (scope := defScope (top 71)) (ps := ["dictionary", "row"]) (Has.shut h_longest_each) ft (by first | decide | omega) (by rfl) (fun _ _ _ _ _ _ us hl => match us, hl with | [_, _], _ => rfl) (am_cons (x_v 0) (am_cons (x_v 1) am_nil))) am_nil)))
    (ssm_cons (sm_if (t_cmp (c_eqA ft) (x_blt (b_lenA T.b_len) (am_cons (x_v 2) am_nil)) x_int (by rfl)) (ssm_one (sm_ret x_int)) ssm_nil)
    (ssm_one (sm_ret (em_ifExp (t_cmp (c_ltA ft) (em_ixA ft (x_v 2) (x_neg x_int) (by intro _ _; rfl) (by intro _ _; rfl)) (x_blt (b_lenA T.b_len) (am_cons (x_v 1) am_nil)) (by rfl)) (x_add (em_ixA ft (x_v 2) (x_neg x_int) (by intro _ _; rfl) (by intro _ _; rfl)) x_int) x_none))))))
def s__law_right_0 : SM := mSet 1 (mBin fAdd (mK (.int 1)) (mApp 2 (mCons (mV 0) (mCons (mK (.int 7)) mNil)) d__law_take))
def s__law_right_1 : SM := mSet 2 (mApp 1 (mCons (mTup (mCons (mK (txt [97])) (mCons (mBin fAdd (mBin fMul (mK (txt [97])) (mV 1)) (mK (txt [98]))) mNil))) mNil) (shutM d_plain_dictionary))
def s__law_right_2 : SM := mIfS (mOr (mNot (mBool (mApp 2 (mCons (mV 2) (mCons (mBin fAdd (mV 1) (mK (.int 1))) mNil)) (shutM d__law_is_right)))) (mOr (mBool (mBin fNeA (mApp 2 (mCons (mV 2) (mCons (mBin fMul (mK (txt [97])) (mV 1)) mNil)) (shutM d_firsts_of)) (mTup (mCons (mK (.int 0)) (mCons (mK (.int 1)) mNil))))) (mBool (mBin fNeA (mApp 2 (mCons (mV 2) (mCons (mBin fAdd (mBin fMul (mK (txt [97])) (mK (.int 30))) (mK (txt [98]))) mNil)) (shutM d_decided_at)) (mBin fAdd (mV 1) (mK (.int 1))))))) (mRet (mK (.bl false))) (mNext)
def s__law_right_3 : SM := mSet 3 (mBin fAdd (mK (.int 2)) (mApp 2 (mCons (mV 0) (mCons (mK (.int 7)) mNil)) d__law_take))
def s__law_right_4 : SM := mIfS (mNot (mBool (mApp 2 (mCons (mApp 1 (mCons (mCall fTuple (mCons (mCall fSortedC (mCons (mComp (mRng1 (mCons (mV 3) mNil)) (bName 4) (mYes) (mBin fAdd (mBin fMul (mK (txt [97])) (mV 4)) (mK (txt [98]))) [4]) mNil)) mNil)) mNil) (shutM d_plain_dictionary)) (mCons (mBin fSub (mV 3) (mK (.int 1))) mNil)) (shutM d__law_is_right)))) (mRet (mK (.bl false))) (mNext)
def s__law_right_5 : SM := mSet 5 (mBin fAdd (mK (.int 4)) (mApp 2 (mCons (mV 0) (mCons (mK (.int 5)) mNil)) d__law_take))
def s__law_right_6 : SM := mSet 6 (mLst (mCons (mK (txt [])) mNil))
def s__law_right_7 : SM := mFor (mRng1 (mCons (mK (.int 4)) mNil)) (mName 7) (mSet 6 (mBin fAdd (mCompN 6 (bName 8) (mYes) (mBin fAdd (mV 8) (mK (txt [97]))) [8]) (mCompN 6 (bName 8) (mYes) (mBin fAdd (mV 8) (mK (txt [98]))) [8])))
def s__law_right_8 : SM := mIfS (mNot (mBool (mApp 2 (mCons (mApp 1 (mCons (mCall fTuple (mCons (mCall fSortedC (mCons (mCompN 6 (bName 8) (mYes) (mBin fAdd (mBin fMul (mK (txt [99])) (mBin fSub (mV 5) (mK (.int 4)))) (mV 8)) [8]) mNil)) mNil)) mNil) (shutM d_plain_dictionary)) (mCons (mV 5) mNil)) (shutM d__law_is_right)))) (mRet (mK (.bl false))) (mNext)
def s__law_right_9 : SM := mSet 9 (mApp 2 (mCons (mV 0) (mCons (mK (.int 6)) mNil)) d__law_take)
def s__law_right_10 : SM := mIfS (mNot (mBool (mApp 2 (mCons (mApp 1 (mCons (mCall fTuple (mCons (mCall fSortedC (mCons (mLst (mCons (mBin fAdd (mK (txt [97])) (mBin fMul (mK (txt [99])) (mV 9))) (mCons (mBin fAdd (mBin fAdd (mK (txt [97])) (mBin fMul (mK (txt [99])) (mV 9))) (mK (txt [98]))) (mCons (mK (txt [98, 98])) mNil)))) mNil)) mNil)) mNil) (shutM d_plain_dictionary)) (mCons (mK .non) mNil)) (shutM d__law_is_right)))) (mRet (mK (.bl false))) (mNext)
def s__law_right_11 : SM := mIfS (mNot (mBool (mApp 2 (mCons (mApp 1 (mCons (mCall fTuple (mCons (mCall fSortedC (mCons (mLst (mCons (mBin fAdd (mK (txt [97])) (mBin fMul (mK (txt [99])) (mV 9))) (mCons (mBin fAdd (mBin fAdd (mK (txt [97])) (mBin fMul (mK (txt [99])) (mV 9))) (mK (txt [98]))) (mCons (mK (txt [99, 97])) mNil)))) mNil)) mNil)) mNil) (shutM d_plain_dictionary)) (mCons (mBin fAdd (mV 9) (mK (.int 2))) mNil)) (shutM d__law_is_right)))) (mRet (mK (.bl false))) (mNext)
def s__law_right_12 : SM := mSet 10 (mCall fTuple (mCons (mCall fSortedC (mCons (mBin fAdd (mV 2) (mTup (mCons (mTup (mCons (mK (txt [97])) (mCons (mK (txt [122, 122])) mNil))) mNil))) mNil)) mNil))
def s__law_right_13 : SM := mRet (mAndV (mApp 2 (mCons (mV 10) (mCons (mK .non) mNil)) (shutM d__law_is_right)) (mAndV (mApp 2 (mCons (mSl (mV 2) (mNoPart) (mPart (mK (.int 1)))) (mCons (mK (.int 0)) mNil)) (shutM d__law_is_right)) (mBin fIs (mApp 2 (mCons (mV 10) (mCons (mTup (mCons (mK (txt [101, 110, 100, 108, 101, 115, 115])) (mCons (mTup (mCons (mK (.int 0)) (mCons (mK (.int 1)) (mCons (mTup (mNil)) (mCons (mTup (mNil)) mNil))))) mNil))) mNil)) (shutM d_shows_heard)) (mK (.bl true)))))
def m__law_right_13 : SM := s__law_right_13
def m__law_right_12 : SM := mSeq (s__law_right_12) m__law_right_13
def m__law_right_11 : SM := mSeq (s__law_right_11) m__law_right_12
def m__law_right_10 : SM := mSeq (s__law_right_10) m__law_right_11
def m__law_right_9 : SM := mSeq (s__law_right_9) m__law_right_10
def m__law_right_8 : SM := mSeq (s__law_right_8) m__law_right_9
def m__law_right_7 : SM := mSeq (s__law_right_7) m__law_right_8
def m__law_right_6 : SM := mSeq (s__law_right_6) m__law_right_7
def m__law_right_5 : SM := mSeq (s__law_right_5) m__law_right_6
def m__law_right_4 : SM := mSeq (s__law_right_4) m__law_right_5
def m__law_right_3 : SM := mSeq (s__law_right_3) m__law_right_4
def m__law_right_2 : SM := mSeq (s__law_right_2) m__law_right_3
def m__law_right_1 : SM := mSeq (s__law_right_1) m__law_right_2
def m__law_right : SM :=
  mSeq (s__law_right_0) m__law_right_1
def d__law_right : DM := mFnT 11 m__law_right
theorem sc__law_right : FnScope ["pot", "many", "first", "steps", "step", "size", "rows", "lap", "row", "back", "twice"] ["pot"] (defScope (top 79)) := ⟨rfl, rfl, rfl, by decide +kernel, rfl, by decide +kernel, by decide +kernel⟩
theorem ok__law_right (T : Fx K mg) (h_plain_dictionary : HasT P w K mg base 5 25 "plain_dictionary" ["code"] d_plain_dictionary) (h__law_take : HasT P w K mg base 1 76 "_law_take" ["pot", "upto"] d__law_take) (h__law_is_right : HasT P w K mg base 8 78 "_law_is_right" ["dictionary", "number"] d__law_is_right) (h_firsts_of : HasT P w K mg base 7 72 "firsts_of" ["dictionary", "row"] d_firsts_of) (h_decided_at : HasT P w K mg base 7 73 "decided_at" ["dictionary", "row"] d_decided_at) (h_shows_heard : HasT P w K mg base 7 66 "shows_heard" ["dictionary", "value"] d_shows_heard) : HasT P w K mg base 9 79 "_law_right" ["pot"] d__law_right := by
  obtain ⟨f, fd, F, hm⟩ := T.f__law_right
  refine ⟨f, fd, F, hm, runsT (N := ["pot", "many", "first", "steps", "step", "size", "rows", "lap", "row", "back", "twice"]) (m := m__law_right) F sc__law_right fun cdv A outer s H hr hg => ?_⟩
  have ft : Fit (cxOf CX0 P w K mg base ["pot", "many", "first", "steps", "step", "size", "rows", "lap", "row", "back", "twice"] "_law_right" (defScope (top 79)) f cdv A outer s H E0).nox 8 := ⟨hr, hg⟩
  have hN : (cxOf CX0 P w K mg base ["pot", "many", "first", "steps", "step", "size", "rows", "lap", "row", "back", "twice"] "_law_right" (defScope (top 79)) f cdv A outer s H E0).nox.N.Nodup := (sc__law_right).nd
  exact (ssm_cons (sm_set (i := 1) hN rfl (Or.inl rfl) (x_add x_int (em_call (x := "_law_take") (params := defArgs (top 76)) (body := defBody (top 76)) (scope := defScope (top 76)) (ps := ["pot", "upto"]) h__law_take ft (by first | decide | omega) (by rfl) (fun _ _ _ _ _ _ us hl => match us, hl with | [_, _], _ => rfl) (am_cons (x_v 0) (am_cons x_int am_nil)))))
    (ssm_cons (sm_set (i := 2) hN rfl (Or.inl rfl) (em_call (x := "plain_dictionary") (params := defArgs (top 25)) (body := defBody (top 25)) (scope := defScope (top 25)) (ps := ["code"]) (Has.shut h_plain_dictionary) ft (by first | decide | omega) (by rfl) (fun _ _ _ _ _ _ us hl => match us, hl with | [_], _ => rfl) (am_cons (em_tup (am_cons (x_strL (l := [97])) (am_cons (x_add (x_mul (x_strL (l := [97])) (x_v 1)) (x_strL (l := [98]))) am_nil))) am_nil)))
    (ssm_cons (sm_if (tm_w (wm_or (tm_not (tm_val (em_call (x := "_law_is_right") (params := defArgs (top 78)) (body := defBody (top 78)) (scope := defScope (top 78)) (ps := ["dictionary", "number"]) (Has.shut h__law_is_right) ft (by first | decide | omega) (by rfl) (fun _ _ _ _ _ _ us hl => match us, hl with | [_, _], _ => rfl) (am_cons (x_v 2) (am_cons (x_add (x_v 1) x_int) am_nil))))) (wm_or (t_cmp (c_neA ft) (em_call (x := "firsts_of") (params := defArgs (top 72)) (body := defBody (top 72)) (scope := defScope (top 72)) (ps := ["dictionary", "row"]) (Has.shut h_firsts_of) ft (by first | decide | omega) (by rfl) (fun _ _ _ _ _ _ us hl => match us, hl with | [_, _], _ => rfl) (am_cons (x_v 2) (am_cons (x_mul (x_strL (l := [97])) (x_v 1)) am_nil))) (em_tup (am_cons x_int (am_cons x_int am_nil))) (by rfl)) (wm_or1 (t_cmp (c_neA ft) (em_call (x := "decided_at") (params := defArgs (top 73)) (body := defBody (top 73)) (scope := defScope (top 73)) (ps := ["dictionary", "row"]) (Has.shut h_decided_at) ft (by first | decide | omega) (by rfl) (fun _ _ _ _ _ _ us hl => match us, hl with | [_, _], _ => rfl) (am_cons (x_v 2) (am_cons (x_add (x_mul (x_strL (l := [97])) x_int) (x_strL (l := [98]))) am_nil))) (x_add (x_v 1) x_int) (by rfl)))))) (ssm_one (sm_ret x_bool)) ssm_nil)
    (ssm_cons (sm_set (i := 3) hN rfl (Or.inl rfl) (x_add x_int (em_call (x := "_law_take") (params := defArgs (top 76)) (body := defBody (top 76)) (scope := defScope (top 76)) (ps := ["pot", "upto"]) h__law_take ft (by first | decide | omega) (by rfl) (fun _ _ _ _ _ _ us hl => match us, hl with | [_, _], _ => rfl) (am_cons (x_v 0) (am_cons x_int am_nil)))))
    (ssm_cons (sm_if (tm_not (tm_val (em_call (x := "_law_is_right") (params := defArgs (top 78)) (body := defBody (top 78)) (scope := defScope (top 78)) (ps := ["dictionary", "number"]) (Has.shut h__law_is_right) ft (by first | decide | omega) (by rfl) (fun _ _ _ _ _ _ us hl => match us, hl with | [_, _], _ => rfl) (am_cons (em_call (x := "plain_dictionary") (params := defArgs (top 25)) (body := defBody (top 25)) (scope := defScope (top 25)) (ps := ["code"]) (Has.shut h_plain_dictionary) ft (by first | decide | omega) (by rfl) (fun _ _ _ _ _ _ us hl => match us, hl with | [_], _ => rfl) (am_cons (x_blt (b_tuple T.b_tuple) (am_cons (x_blt (b_sortedC ft T.b_sorted) (am_cons (em_comp rfl hN (im_rng1 (by rfl) T.b_range (am_cons (x_v 3) am_nil)) ⟨blkOk_by (own := [("step", 4)]) (by first | decide +kernel | rfl), (fun _ _ _ _ _ => gw_name (by decide) hN rfl (Or.inl rfl)), (fun _ _ _ _ _ => tsm_nil), (fun _ _ _ _ _ => (x_add (x_mul (x_strL (l := [97])) (x_v 4)) (x_strL (l := [98]))))⟩) am_nil)) am_nil)) am_nil)) (am_cons (x_sub (x_v 3) x_int) am_nil))))) (ssm_one (sm_ret x_bool)) ssm_nil)
    (ssm_cons (sm_set (i := 5) hN rfl (Or.inr rfl) (x_add x_int (em_call (x := "_law_take") (params := defArgs (top 76)) (body := defBody (top 76)) (scope := defScope (top 76)) (ps := ["pot", "upto"]) h__law_take ft (by first | decide | omega) (by rfl) (fun _ _ _ _ _ _ us hl => match us, hl with | [_, _], _ => rfl) (am_cons (x_v 0) (am_cons x_int am_nil)))))
    (ssm_cons (sm_set (i := 6) hN rfl (Or.inl rfl) (em_lst (am_cons (x_strL (l := [])) am_nil)))
    (ssm_cons (sm_for PassesOwn.never rfl (im_rng1 (by rfl) T.b_range (am_cons x_int am_nil)) (gm_name hN rfl (Or.inl rfl)) (ssm_one (sm_set (i := 6) hN rfl (Or.inl rfl) (x_add (em_compN 6 rfl hN ⟨blkOk_by (own := [("row", 8)]) (by first | decide +kernel | rfl), (fun _ _ _ _ _ => gw_name (by decide) hN rfl (Or.inl rfl)), (fun _ _ _ _ _ => tsm_nil), (fun _ _ _ _ _ => (x_add (x_v 8) (x_strL (l := [97]))))⟩) (em_compN 6 rfl hN ⟨blkOk_by (own := [("row", 8)]) (by first | decide +kernel | rfl), (fun _ _ _ _ _ => gw_name (by decide) hN rfl (Or.inl rfl)), (fun _ _ _ _ _ => tsm_nil), (fun _ _ _ _ _ => (x_add (x_v 8) (x_strL (l := [98]))))⟩)))))
    (ssm_cons (sm_if (tm_not (tm_val (em_call (x := "_law_is_right") (params := defArgs (top 78)) (body := defBody (top 78)) (scope := defScope (top 78)) (ps := ["dictionary", "number"]) (Has.shut h__law_is_right) ft (by first | decide | omega) (by rfl) (fun _ _ _ _ _ _ us hl => match us, hl with | [_, _], _ => rfl) (am_cons (em_call (x := "plain_dictionary") (params := defArgs (top 25)) (body := defBody (top 25)) (scope := defScope (top 25)) (ps := ["code"]) (Has.shut h_plain_dictionary) ft (by first | decide | omega) (by rfl) (fun _ _ _ _ _ _ us hl => match us, hl with | [_], _ => rfl) (am_cons (x_blt (b_tuple T.b_tuple) (am_cons (x_blt (b_sortedC ft T.b_sorted) (am_cons (em_compN 6 rfl hN ⟨blkOk_by (own := [("row", 8)]) (by first | decide +kernel | rfl), (fun _ _ _ _ _ => gw_name (by decide) hN rfl (Or.inl rfl)), (fun _ _ _ _ _ => tsm_nil), (fun _ _ _ _ _ => (x_add (x_mul (x_strL (l := [99])) (x_sub (x_v 5) x_int)) (x_v 8)))⟩) am_nil)) am_nil)) am_nil)) (am_cons (x_v 5) am_nil))))) (ssm_one (sm_ret x_bool)) ssm_nil)
    (ssm_cons (sm_set (i := 9) hN rfl (Or.inl rfl) (em_call (x := "_law_take") (params := defArgs (top 76)) (body := defBody (top 76)) (scope := defScope (top 76)) (ps := ["pot", "upto"]) h__law_take ft (by first | decide | omega) (by rfl) (fun _ _ _ _ _ _ us hl => match us, hl with | [_, _], _ => rfl) (am_cons (x_v 0) (am_cons x_int am_nil))))
    (ssm_cons (sm_if (tm_not (tm_val (em_call (x := "_law_is_right") (params := defArgs (top 78)) (body := defBody (top 78)) (scope := defScope (top 78)) (ps := ["dictionary", "number"]) (Has.shut h__law_is_right) ft (by first | decide | omega) (by rfl) (fun _ _ _ _ _ _ us hl => match us, hl with | [_, _], _ => rfl) (am_cons (em_call (x := "plain_dictionary") (params := defArgs (top 25)) (body := defBody (top 25)) (scope := defScope (top 25)) (ps := ["code"]) (Has.shut h_plain_dictionary) ft (by first | decide | omega) (by rfl) (fun _ _ _ _ _ _ us hl => match us, hl with | [_], _ => rfl) (am_cons (x_blt (b_tuple T.b_tuple) (am_cons (x_blt (b_sortedC ft T.b_sorted) (am_cons (em_lst (am_cons (x_add (x_strL (l := [97])) (x_mul (x_strL (l := [99])) (x_v 9))) (am_cons (x_add (x_add (x_strL (l := [97])) (x_mul (x_strL (l := [99])) (x_v 9))) (x_strL (l := [98]))) (am_cons (x_strL (l := [98, 98])) am_nil)))) am_nil)) am_nil)) am_nil)) (am_cons x_none am_nil))))) (ssm_one (sm_ret x_bool)) ssm_nil)
    (ssm_cons (sm_if (tm_not (tm_val (em_call (x := "_law_is_right") (params := defArgs (top 78)) (body := defBody (top 78)) (scope := defScope (top 78)) (ps := ["dictionary", "number"]) (Has.shut h__law_is_right) ft (by first | decide | omega) (by rfl) (fun _ _ _ _ _ _ us hl => match us, hl with | [_, _], _ => rfl) (am_cons (em_call (x := "plain_dictionary") (params := defArgs (top 25)) (body := defBody (top 25)) (scope := defScope (top 25)) (ps := ["code"]) (Has.shut h_plain_dictionary) ft (by first | decide | omega) (by rfl) (fun _ _ _ _ _ _ us hl => match us, hl with | [_], _ => rfl) (am_cons (x_blt (b_tuple T.b_tuple) (am_cons (x_blt (b_sortedC ft T.b_sorted) (am_cons (em_lst (am_cons (x_add (x_strL (l := [97])) (x_mul (x_strL (l := [99])) (x_v 9))) (am_cons (x_add (x_add (x_strL (l := [97])) (x_mul (x_strL (l := [99])) (x_v 9))) (x_strL (l := [98]))) (am_cons (x_strL (l := [99, 97])) am_nil)))) am_nil)) am_nil)) am_nil)) (am_cons (x_add (x_v 9) x_int) am_nil))))) (ssm_one (sm_ret x_bool)) ssm_nil)
    (ssm_cons (sm_set (i := 10) hN rfl (Or.inl rfl) (x_blt (b_tuple T.b_tuple) (am_cons (x_blt (b_sortedC ft T.b_sorted) (am_cons (x_add (x_v 2) (em_tup (am_cons (em_tup (am_cons (x_strL (l := [97])) (am_cons (x_strL (l := [122, 122])) am_nil))) am_nil))) am_nil)) am_nil)))
    (ssm_one (sm_ret (em_and (em_call (x := "_law_is_right") (params := defArgs (top 78)) (body := defBody (top 78)) (scope := defScope (top 78)) (ps := ["dictionary", "number"]) (Has.shut h__law_is_right) ft (by first | decide | omega) (by rfl) (fun _ _ _ _ _ _ us hl => match us, hl with | [_, _], _ => rfl) (am_cons (x_v 10) (am_cons x_none am_nil))) (em_and (em_call (x := "_law_is_right") (params := defArgs (top 78)) (body := defBody (top 78)) (scope := defScope (top 78)) (ps := ["dictionary", "number"]) (Has.shut h__law_is_right) ft (by first | decide | omega) (by rfl) (fun _ _ _ _ _ _ us hl => match us, hl with | [_, _], _ => rfl) (am_cons (em_sl (x_v 2) om_none (om_some x_int)) (am_cons x_int am_nil))) (em_one (x_cmp (c_is) (em_call (x := "shows_heard") (params := defArgs (top 66)) (body := defBody (top 66)) (scope := defScope (top 66)) (ps := ["dictionary", "value"]) (Has.shut h_shows_heard) ft (by first | decide | omega) (by rfl) (fun _ _ _ _ _ _ us hl => match us, hl with | [_, _], _ => rfl) (am_cons (x_v 10) (am_cons (em_tup (am_cons (x_strL (l := [101, 110, 100, 108, 101, 115, 115])) (am_cons (em_tup (am_cons x_int (am_cons x_int (am_cons (em_tup am_nil) (am_cons (em_tup am_nil) am_nil))))) am_nil))) am_nil))) x_bool (by rfl))))))))))))))))))))
def m_law : SM :=
  mSeq (mFor (mIter (mApp 2 (mCons (mV 0) (mCons (mK (.int 3)) mNil)) d__law_cells)) (mName 1) (mSeq (mSet 2 (mApp 2 (mCons (mV 0) (mCons (mV 1) mNil)) d__law_pot))
  (mIfS (mNot (mBool (mCall fAll (mCons (mComp (mRng1 (mCons (mK (.int 4)) mNil)) (bName 3) (mYes) (mApp 1 (mCons (mV 2) mNil) d__law_right) [3]) mNil)))) (mRet (mK (.bl false))) (mNext))))
  (mRet (mK (.bl true)))
def d_law : DM := mFnT 4 m_law
theorem sc_law : FnScope ["script", "place", "pot", "lap"] ["script"] (defScope (top 80)) := ⟨rfl, rfl, rfl, by decide +kernel, rfl, by decide +kernel, by decide +kernel⟩
theorem ok_law (T : Fx K mg) (h__law_cells : HasT P w K mg base 1 77 "_law_cells" ["script", "most"] d__law_cells) (h__law_pot : HasT P w K mg base 1 75 "_law_pot" ["script", "place"] d__law_pot) (h__law_right : HasT P w K mg base 9 79 "_law_right" ["pot"] d__law_right) : HasT P w K mg base 10 80 "law" ["script"] d_law := by
  obtain ⟨f, fd, F, hm⟩ := T.f_law
  refine ⟨f, fd, F, hm, runsT (N := ["script", "place", "pot", "lap"]) (m := m_law) F sc_law fun cdv A outer s H hr hg => ?_⟩
  have ft : Fit (cxOf CX0 P w K mg base ["script", "place", "pot", "lap"] "law" (defScope (top 80)) f cdv A outer s H E0).nox 9 := ⟨hr, hg⟩
  have hN : (cxOf CX0 P w K mg base ["script", "place", "pot", "lap"] "law" (defScope (top 80)) f cdv A outer s H E0).nox.N.Nodup := (sc_law).nd
  exact (ssm_cons (sm_for PassesOwn.never rfl (im_any (em_call (x := "_law_cells") (params := defArgs (top 77)) (body := defBody (top 77)) (scope := defScope (top 77)) (ps := ["script", "most"]) h__law_cells ft (by first | decide | omega) (by rfl) (fun _ _ _ _ _ _ us hl => match us, hl with | [_, _], _ => rfl) (am_cons (x_v 0) (am_cons x_int am_nil)))) (gm_name hN rfl (Or.inl rfl)) (ssm_cons (sm_set (i := 2) hN rfl (Or.inr rfl) (em_call (x := "_law_pot") (params := defArgs (top 75)) (body := defBody (top 75)) (scope := defScope (top 75)) (ps := ["script", "place"]) h__law_pot ft (by first | decide | omega) (by rfl) (fun _ _ _ _ _ _ us hl => match us, hl with | [_, _], _ => rfl) (am_cons (x_v 0) (am_cons (x_v 1) am_nil))))
    (ssm_one (sm_if (tm_not (tm_val (x_blt (b_all T.b_all) (am_cons (em_comp rfl hN (im_rng1 (by rfl) T.b_range (am_cons x_int am_nil)) ⟨blkOk_by (own := [("lap", 3)]) (by first | decide +kernel | rfl), (fun _ _ _ _ _ => gw_name (by decide) hN rfl (Or.inl rfl)), (fun _ _ _ _ _ => tsm_nil), (fun _ _ _ _ _ => (em_call (x := "_law_right") (params := defArgs (top 79)) (body := defBody (top 79)) (scope := defScope (top 79)) (ps := ["pot"]) h__law_right ft.blk (by first | decide | omega) (by rfl) (fun _ _ _ _ _ _ us hl => match us, hl with | [_], _ => rfl) (am_cons (x_v 2) am_nil)))⟩) am_nil)))) (ssm_one (sm_ret x_bool)) ssm_nil))))
    (ssm_one (sm_ret x_bool)))
theorem ok_all (T : Fx K mg) : HasT P w K mg base 10 80 "law" ["script"] d_law := by
  have h__law_cells := ok__law_cells (P := P) (w := w) (base := base) T
  have h__law_pot := ok__law_pot (P := P) (w := w) (base := base) T
  have h_is_ascending := ok_is_ascending (P := P) (w := w) (base := base) T
  have h_are_signs := ok_are_signs (P := P) (w := w) (base := base) T
  have h_is_signs := ok_is_signs (P := P) (w := w) (base := base) T h_are_signs
  have h_is_code_of := ok_is_code_of (P := P) (w := w) (base := base) T h_is_ascending h_is_signs
  have h_check_code := ok_check_code (P := P) (w := w) (base := base) T h_is_code_of
  have h_plain_dictionary := ok_plain_dictionary (P := P) (w := w) (base := base) T h_check_code
  have h__law_take := ok__law_take (P := P) (w := w) (base := base) T
  have h_begins_by := ok_begins_by (P := P) (w := w) (base := base) T
  have h_step_by := ok_step_by (P := P) (w := w) (base := base) T
  have h_steps_of := ok_steps_of (P := P) (w := w) (base := base) T h_step_by
  have h_gathered := ok_gathered (P := P) (w := w) (base := base) T h_steps_of
  have h_endless_of := ok_endless_of (P := P) (w := w) (base := base) T h_gathered h_steps_of
  have h_code_by := ok_code_by (P := P) (w := w) (base := base) T
  have h_way_to := ok_way_to (P := P) (w := w) (base := base) T h_step_by
  have h_led_by := ok_led_by (P := P) (w := w) (base := base) T h_step_by
  have h_place_to := ok_place_to (P := P) (w := w) (base := base) T h_step_by
  have h_round_by := ok_round_by (P := P) (w := w) (base := base) T h_led_by h_place_to h_step_by
  have h_ring_by := ok_ring_by (P := P) (w := w) (base := base) T h_begins_by h_endless_of h_code_by h_way_to h_round_by
  have h_common_many := ok_common_many (P := P) (w := w) (base := base) T
  have h_alike_on := ok_alike_on (P := P) (w := w) (base := base) T h_step_by h_common_many
  have h_ranks_by := ok_ranks_by (P := P) (w := w) (base := base) T h_code_by h_gathered h_alike_on h_begins_by
  have h_starts_by := ok_starts_by (P := P) (w := w) (base := base) T h_common_many
  have h_is_most := ok_is_most (P := P) (w := w) (base := base) T h_alike_on
  have h_readings_by := ok_readings_by (P := P) (w := w) (base := base) T h_step_by h_is_most
  have h_heard_by := ok_heard_by (P := P) (w := w) (base := base) T h_ring_by h_ranks_by h_starts_by h_readings_by
  have h_is_tuple_of := ok_is_tuple_of (P := P) (w := w) (base := base) T
  have h_is_entry_of := ok_is_entry_of (P := P) (w := w) (base := base) T h_is_tuple_of h_is_signs
  have h_is_dictionary_of := ok_is_dictionary_of (P := P) (w := w) (base := base) T h_is_ascending h_is_entry_of
  have h_check_dictionary := ok_check_dictionary (P := P) (w := w) (base := base) T h_is_dictionary_of
  have h_heard_told := ok_heard_told (P := P) (w := w) (base := base) T h_heard_by h_check_dictionary
  have h_is_integer := ok_is_integer (P := P) (w := w) (base := base) T
  have h_is_between := ok_is_between (P := P) (w := w) (base := base) T h_is_integer
  have h_are_between := ok_are_between (P := P) (w := w) (base := base) T h_is_between
  have h_is_reading_of := ok_is_reading_of (P := P) (w := w) (base := base) T h_are_between
  have h_row_by := ok_row_by (P := P) (w := w) (base := base) T
  have h_are_along := ok_are_along (P := P) (w := w) (base := base) T h_common_many h_is_reading_of h_row_by
  have h_is_natural := ok_is_natural (P := P) (w := w) (base := base) T h_is_integer
  have h_is_rest := ok_is_rest (P := P) (w := w) (base := base) T h_is_signs
  have h_are_ranks := ok_are_ranks (P := P) (w := w) (base := base) T h_code_by h_is_ascending h_starts_by h_is_natural h_begins_by h_is_tuple_of h_is_rest h_steps_of h_alike_on
  have h_is_ring := ok_is_ring (P := P) (w := w) (base := base) T h_led_by h_is_tuple_of h_are_between h_is_reading_of
  have h_shows_by := ok_shows_by (P := P) (w := w) (base := base) T h_are_along h_are_ranks h_is_ring h_is_natural
  have h_shows_heard := ok_shows_heard (P := P) (w := w) (base := base) T h_shows_by h_check_dictionary
  have h_least_heard := ok_least_heard (P := P) (w := w) (base := base) T h_heard_by h_check_dictionary
  have h__law_is_right := ok__law_is_right (P := P) (w := w) (base := base) T h_heard_told h_shows_heard h_least_heard
  have h_is_row_of := ok_is_row_of (P := P) (w := w) (base := base) T h_is_signs
  have h_check_row := ok_check_row (P := P) (w := w) (base := base) T h_is_row_of
  have h_check_read := ok_check_read (P := P) (w := w) (base := base) T h_check_dictionary h_check_row
  have h_entries_at := ok_entries_at (P := P) (w := w) (base := base) T
  have h_come_to := ok_come_to (P := P) (w := w) (base := base) T h_entries_at
  have h_longest_on := ok_longest_on (P := P) (w := w) (base := base) T h_come_to h_common_many
  have h_longest_with := ok_longest_with (P := P) (w := w) (base := base) T h_common_many h_longest_on
  have h_longest_each := ok_longest_each (P := P) (w := w) (base := base) T h_longest_with
  have h_firsts_of := ok_firsts_of (P := P) (w := w) (base := base) T h_check_read h_longest_each
  have h_decided_at := ok_decided_at (P := P) (w := w) (base := base) T h_check_read h_longest_each
  have h__law_right := ok__law_right (P := P) (w := w) (base := base) T h_plain_dictionary h__law_take h__law_is_right h_firsts_of h_decided_at h_shows_heard
  have h_law := ok_law (P := P) (w := w) (base := base) T h__law_cells h__law_pot h__law_right
  exact h_law
end
end Lw
end

/-! what the law draws by: printed by pot.py -/
namespace Lw
open PySem PySem.Spec PyProof.Rows L2 Pv

local macro_rules | `(tactic| trivial) => `(tactic| first
  | with_reducible refine ev_seq ?_ | with_reducible refine ev_set ?_ | with_reducible refine ev_ret ?_ | with_reducible refine aft_nx ?_ | with_reducible refine aft_rt ?_ | with_reducible refine ev_next ?_ | with_reducible refine ev_ifS ?_ | with_reducible refine ev_par ?_ | with_reducible refine ev_asg ?_ | with_reducible refine ev_expr ?_
  | with_reducible refine ev_K ?_ | ((with_reducible apply ev_V); exact rfl) | with_reducible refine ev_bin ?_ | with_reducible refine ev_un ?_ | with_reducible refine ev_nil ?_ | with_reducible refine ev_cons ?_ | with_reducible refine ev_call ?_ | with_reducible refine ev_app ?_ | with_reducible refine ev_appK ?_ | with_reducible refine ev_tup ?_ | with_reducible refine ev_lst ?_ | with_reducible refine ev_cell ?_
  | with_reducible refine ev_bool ?_ | with_reducible refine ev_if ?_ | with_reducible refine ev_and ?_ | with_reducible refine ev_or ?_ | with_reducible refine ev_not ?_ | with_reducible refine ev_orV ?_ | with_reducible refine ev_notV ?_ | with_reducible refine ev_chain ?_ | with_reducible refine ev_sl ?_ | with_reducible refine ev_noPart ?_ | with_reducible refine ev_part ?_
  | with_reducible refine exB ?_ | with_reducible refine exI ?_ | with_reducible refine exS ?_ | with_reducible refine ex2 ?_ | with_reducible refine brT ?_ | with_reducible refine brF ?_ | with_reducible refine brNT ?_ | with_reducible refine brNF ?_
  | with_reducible refine br (fun _ => ?_) (fun _ => ?_)
  | with_reducible refine s_add_ii ?_ | with_reducible refine s_sub ?_ | with_reducible refine s_lt ?_ | with_reducible refine s_le ?_ | with_reducible refine s_gt ?_ | with_reducible refine s_ge ?_ | with_reducible refine s_eq_ii ?_ | with_reducible refine s_ne_ii ?_ | with_reducible refine s_neg ?_
  | with_reducible refine s_eq_ss ?_ | with_reducible refine s_ne_ss ?_ | with_reducible refine s_inS ?_ | with_reducible refine s_len_t ?_ | with_reducible refine s_len_l ?_ | with_reducible refine s_len_c ?_ | with_reducible refine s_abs ?_ | with_reducible refine s_int ?_ | with_reducible refine s_intB ?_ | with_reducible refine s_min2 ?_ | with_reducible refine s_max2 ?_
  | with_reducible refine s_ix_cell (by assumption) rfl ?_ | with_reducible refine s_mod (by omega) ?_ | with_reducible refine s_div (by omega) ?_ | with_reducible refine s_mul_ii (by omega) ?_
  | with_reducible refine turn_nx ?_ | with_reducible refine turn_rt ?_ | with_reducible refine ret_rt ?_ | with_reducible refine ret_nx ?_ | with_reducible refine len1 rfl ?_
  | with_reducible refine s_len_s (by first | assumption | omega) ?_ | with_reducible refine s_to_s (by first | decide | omega) (by omega) ?_ | with_reducible refine s_from_s (by first | decide | omega) (by omega) ?_ | with_reducible refine s_to_t (by first | decide | omega) ?_ | with_reducible refine s_from_t (by first | decide | omega) ?_
  | ((with_reducible apply s_ix_t); exact rfl) | ((with_reducible apply s_ix_l); exact rfl)
  | with_reducible refine s_rev_t ?_ | with_reducible refine s_list_t ?_ | with_reducible refine s_list_l ?_ | (with_reducible apply s_add_tt; exact Nat.le_of_ble_eq_true rfl)
  | with_reducible refine ev_strM ?_ | with_reducible refine ev_strM0 ?_ | with_reducible refine ev_sub ?_
  | ((with_reducible apply brN); all_goals intro _) | ((with_reducible refine And.intro (And.intro ?_ ?_) ?_); (focus exact rfl); (focus exact rfl)) | ((with_reducible refine And.intro ?_ ?_); (focus exact Nat.le_of_ble_eq_true rfl))
  | ((with_reducible refine s_isi' (b := true) ?_ ?_ ?_ ?_); (focus exact rfl); (focus exact rfl); (focus exact rfl)) | ((with_reducible refine s_isi' (b := false) ?_ ?_ ?_ ?_); (focus exact rfl); (focus exact rfl); (focus exact rfl)))


theorem t_take {k : Nat} {n u : Int} {S0 S : Sto} {P : D → Sto → Prop} (h : PS k n S0 S) (hu : 0 < u ∧ u < 1073741824) (hn : n ≤ 1000000)
    (q : ∀ (r : Int) (S' : Sto), 0 ≤ r → r < u → PS k (n + 1) S0 S' → P (.int r) S') : Ev (d__law_take [.cell k, .int u] S) P := by
  obtain ⟨own, p1, p2, e, h1, h2, h3, h4, h5⟩ := h.at
  refine ev_fnT ?_
  unfold m__law_take
  repeat' trivial
  · refine ⟨k, 0, _, 0, rfl, rfl, e, rfl, ?_⟩
    repeat' trivial
    have z := h.put (m := n + 1) (c := .lst [.int (own / u), .int p1, .int p2]) ⟨_, _, _, rfl, Int.ediv_nonneg h1 (by omega), h2, h3, h4, by omega⟩
    exact ⟨by rw [List.length_set], z.fl, rfl, q _ _ (Int.emod_nonneg _ (by omega)) (Int.emod_lt_of_pos _ hu.1) z⟩
  · refine ⟨k, 2, _, 2, rfl, rfl, e, rfl, ?_⟩
    have z := h.put (m := n + 1) (c := .lst [.int own, .int p1, .int (p2 + 1)]) ⟨_, _, _, rfl, h1, h2, h3, by omega, by omega⟩
    have hl : (S.set k (.lst [.int own, .int p1, .int (p2 + 1)])).length = S.length := List.length_set
    have e2 : (S.set k (.lst [.int own, .int p1, .int (p2 + 1)]))[k]? = some (.lst [.int own, .int p1, .int (p2 + 1)]) := by rw [List.getElem?_set_self (by rw [h.len]; exact h.lt)]
    show Aft _ _ _ (S.set k (.lst [.int own, .int p1, .int (p2 + 1)]))
    generalize S.set k (.lst [.int own, .int p1, .int (p2 + 1)]) = S2 at z hl e2 ⊢
    repeat' trivial
    obtain ⟨pr, e3, hp⟩ : ∃ pr : Int, atI [D.int 2147480197, D.int 2147480161, D.int 2147480143, D.int 2147480131, D.int 2147480071] ((p2 + 1) % 5) = some (.int pr) ∧ 0 < pr ∧ pr < 2147483648 := by
      have m1 : 0 ≤ (p2 + 1) % 5 := Int.emod_nonneg _ (by decide)
      have m2 : (p2 + 1) % 5 < 5 := Int.emod_lt_of_pos _ (by decide)
      generalize (p2 + 1) % 5 = m at m1 m2
      have : m = 0 ∨ m = 1 ∨ m = 2 ∨ m = 3 ∨ m = 4 := by omega
      rcases this with rfl | rfl | rfl | rfl | rfl
      · exact ⟨2147480197, rfl, by decide, by decide⟩
      · exact ⟨2147480161, rfl, by decide, by decide⟩
      · exact ⟨2147480143, rfl, by decide, by decide⟩
      · exact ⟨2147480131, rfl, by decide, by decide⟩
      · exact ⟨2147480071, rfl, by decide, by decide⟩
    refine s_ix_l e3 ?_
    repeat' trivial
    have b1 : 41047 * (p2 + 1) * (p2 + 1) ≤ 41047 * 1000001 * 1000001 := Int.mul_le_mul (by omega) (by omega) (by omega) (by decide)
    have b0 : 0 ≤ 41047 * (p2 + 1) * (p2 + 1) := Int.mul_nonneg (by omega) (by omega)
    have bb := intBits_le_64 (k := p1 + 41047 * (p2 + 1) * (p2 + 1) + 2351) (by omega) (by omega)
    refine s_pow ⟨by decide, by omega⟩ ?_
    have c0 := Int.emod_nonneg ((p1 + 41047 * (p2 + 1) * (p2 + 1) + 2351) ^ (3 : Int).toNat) (show pr ≠ 0 by omega)
    have c1 := Int.emod_lt_of_pos ((p1 + 41047 * (p2 + 1) * (p2 + 1) + 2351) ^ (3 : Int).toNat) hp.1
    repeat' trivial
    exact ⟨hl, z.fl, rfl, q _ _ (Int.emod_nonneg _ (by omega)) (Int.emod_lt_of_pos _ hu.1) z⟩
theorem ev_fnT0 {P : D → Sto → Prop} {m : SM} {xs : List D} {n : Nat} (h : Ev (m (stD n xs) []) (Ret fun d S1 => clD 0 d = true ∧ P d [])) : Ev (mFnT n m xs []) P := by
  obtain ⟨d, S1, e, hd, p⟩ := (ev_fnK h).eq
  unfold mFnT
  rw [e]
  show Ev (cutM 0 d S1) P
  unfold cutM
  rw [List.take_zero, if_pos ⟨Nat.zero_le _, rfl⟩, fz_cl hd]
  exact p
theorem t_pot {S : Sto} {P : D → Sto → Prop} {ns : List Int} {pl : Int} (hl : ns.length ≤ 63) (h0 : 0 ≤ pl) (h1 : pl < 3) (hp : pl < ns.length ∨ (ns = [] ∧ pl = 0))
    (q : ∀ c, Pot 0 c → P (.cell S.length) (S ++ [c])) : Ev (d__law_pot [.scr (ns.map D.int), .int pl] S) P := by
  refine ev_fnK ?_
  unfold m__law_pot
  have fin : ∀ v : Int, Ev ((mSeq (mSet 3 (mBin fMul (mBin fMod (mCall fInt (mCons (mCall fAbs (mCons (mV 2) mNil)) mNil)) (mBin fPow (mBin fPow (mK (.int 10)) (mK (.int 60))) (mK (.int 5)))) (mCall fInt (mCons (mBin fGe (mCall fAbs (mCons (mV 2) mNil)) (mBin fPow (mK (.int 10)) (mK (.int 18)))) mNil)))) (mSeq (mSet 4 (mBin fMod (mCall fInt (mCons (mV 2) mNil)) (mK (.int 2305843009213693951)))) (mRet (mCell (mCons (mV 3) (mCons (mBin fMod (mCall fInt (mCons (mBin fAdd (mBin fAdd (mBin fMul (mV 4) (mK (.int 30517))) (mBin fMul (mBin fMul (mK (.int 8273)) (mV 1)) (mV 1))) (mK (.int 1747))) mNil)) (mK (.int 2305843009213693921))) (mCons (mK (.int 0)) mNil))))))) [some (.scr (ns.map D.int)), some (.int pl), some (.int v), none, none] S) (Ret P) := by
    intro v
    repeat' trivial
    refine s_pow ⟨by decide, by decide +kernel⟩ ?_
    repeat' trivial
    refine s_pow ⟨by decide, by decide +kernel⟩ ?_
    repeat' trivial
    refine s_mod (by decide +kernel) ?_
    repeat' trivial
    refine s_pow ⟨by decide, by decide +kernel⟩ ?_
    repeat' trivial
    refine q _ ⟨_, _, _, rfl, ?_, ?_, ?_, by decide, by decide⟩
    · refine Int.mul_nonneg (Int.emod_nonneg _ (by decide +kernel)) ?_
      have bb : ∀ t : Bool, (0 : Int) ≤ if t = true then 1 else 0 := by decide
      exact bb _
    · exact Int.emod_nonneg _ (by decide)
    · have := Int.emod_lt_of_pos (v % 2305843009213693951 * 30517 + 8273 * pl * pl + 1747) (show (0 : Int) < 2305843009213693921 by decide)
      omega
  refine ev_seq (Ev.imp (P := fun fl S1 => ∃ v : Int, fl = .nx [some (.scr (ns.map D.int)), some (.int pl), some (.int v), none, none] ∧ S1 = S) ?_ (fun fl S1 ⟨v, e1, e2⟩ => by subst e1 e2; exact fin v))
  refine ev_set (ev_if ?_)
  repeat' trivial
  · obtain ⟨d, e, hd⟩ := atI_mem (xs := ns.map D.int) (i := pl) h0 (by assumption)
    obtain ⟨v, _, rfl⟩ := List.mem_map.mp hd
    refine s_ix_c e ?_
    exact ⟨v, rfl, rfl⟩
  · rename_i hh
    rw [List.length_map] at hh
    obtain ⟨rfl, rfl⟩ : ns = [] ∧ pl = 0 := hp.resolve_left hh
    refine s_to_c (by decide) ?_
    repeat' trivial
    refine s_sum (ns := []) ?_
    repeat' trivial
    all_goals exact ⟨_, rfl, rfl⟩
theorem t_cells {S : Sto} {P : D → Sto → Prop} {ns : List Int} (hS : flatS S) (hl : ns.length ≤ 63) (q : ∀ n : Nat, 1 ≤ n → n ≤ 3 → (n ≤ ns.length ∨ (ns = [] ∧ n = 1)) → P (.lst (rngD 0 n)) S) : Ev (d__law_cells [.scr (ns.map D.int), .int 3] S) P := by
  refine ev_fnT ?_
  unfold m__law_cells
  refine ev_ret (ev_lrng1 ?_)
  repeat' trivial
  rw [List.length_map]
  refine ⟨⟨by split <;> split <;> omega, by split <;> split <;> omega⟩, ?_⟩
  have key : ∀ n : Nat, clD 0 (.lst (rngD 0 n)) = true := fun n => by
    show clL 0 (rngD 0 n) = true
    unfold rngD
    generalize List.range n = l
    induction l with
    | nil => rfl
    | cons a l ih => show (true && clL 0 _) = true; rw [ih]; rfl
  refine ⟨rfl, hS, key _, q _ ?_ ?_ ?_⟩
  · split <;> split <;> omega
  · split <;> split <;> omega
  · cases ns with
    | nil => right; exact ⟨rfl, by simp⟩
    | cons x ns => left; rw [List.length_cons] at *; split <;> split <;> omega
theorem flat_app {S : Sto} {c : Cl} {n : Int} (h : flatS S) (p : Pot n c) : flatS (S ++ [c]) := by
  unfold flatS clS at *
  rw [List.all_append, h]
  have := p.flat c rfl
  simp only [List.all_cons, List.all_nil, Bool.and_true, Bool.true_and]
  exact this
theorem law_of (t_right : ∀ {k : Nat} {n : Int} {S0 S : Sto} {P : D → Sto → Prop}, PS k n S0 S → n ≤ 10000 → (∀ S', PS k (n + 100) S0 S' → P (.bl true) S') → Ev (d__law_right [.cell k] S) P)
    (ns : List Int) (h : ns.length ≤ 63) : ∃ S, d_law [.scr (ns.map D.int)] [] = .ok (.bl true) S := by
  have key : Ev (d_law [.scr (ns.map D.int)] []) fun d S => d = .bl true := by
    refine ev_fnT0 ?_
    unfold m_law
    refine ev_seq (ev_for (ev_iterL ?_))
    repeat' trivial
    refine t_cells rfl h fun n n1 n3 hn => ?_
    repeat' trivial
    refine ⟨_, rfl, ?_⟩
    have loop : ∀ (xs : List D) (S : Sto) (e1 e2 e3 : Option D), flatS S → (∀ x, x ∈ xs → ∃ pl : Int, x = .int pl ∧ 0 ≤ pl ∧ pl < 3 ∧ (pl < ns.length ∨ (ns = [] ∧ pl = 0))) →
        ∀ Q : Fl → Sto → Prop, (∀ e1 e2 e3 S', Q (.nx [some (.scr (ns.map D.int)), e1, e2, e3]) S') →
        Ev (loopM (mName 1) (mSeq (mSet 2 (mApp 2 (mCons (mV 0) (mCons (mV 1) mNil)) d__law_pot)) (mIfS (mNot (mBool (mCall fAll (mCons (mComp (mRng1 (mCons (mK (.int 4)) mNil)) (bName 3) (mYes) (mApp 1 (mCons (mV 2) mNil) d__law_right) [3]) mNil)))) (mRet (mK (.bl false))) (mNext))) xs [some (.scr (ns.map D.int)), e1, e2, e3] S) Q := by
      intro xs
      induction xs with
      | nil => intro S e1 e2 e3 _ _ Q hQ; exact loop_nil (hQ _ _ _ _)
      | cons x xs ih =>
        intro S e1 e2 e3 hS hx Q hQ
        obtain ⟨pl, rfl, p0, p1, p2⟩ := hx x List.mem_cons_self
        refine loop_cons (ev_name ?_)
        repeat' trivial
        refine t_pot h p0 p1 p2 fun c hc => ?_
        have hS' := flat_app hS hc
        have ps : PS S.length 0 (S ++ [c]) (S ++ [c]) := ⟨⟨c, hc, by simp⟩, by simp, hS'⟩
        repeat' trivial
        refine ev_comp (ev_rng1 ?_)
        repeat' trivial
        refine ⟨4, rfl, by decide, by decide, ?_⟩
        refine comp_invN (fun i S' => PS S.length (100 * i) (S ++ [c]) S') (fun y => y = .bl true) 4 0 (fun x i S1 hx hi hI => ⟨_, rfl, ?_⟩) (by decide) (by simpa using ps) fun ys S' hy hys hi => ?_
        · repeat' trivial
          refine t_right hI (by omega) fun S' h' => ⟨rfl, h'.up (by omega)⟩
        · repeat' trivial
          have ey : ys = (List.replicate ys.length true).map D.bl := by
            rw [List.map_replicate]
            exact List.eq_replicate_of_mem hys
          rw [ey]
          refine s_all ?_
          rw [show (List.replicate ys.length true).all id = true by simp]
          repeat' trivial
          exact ih S' _ _ _ hi.fl (fun z hz => hx z (List.mem_cons_of_mem _ hz)) Q hQ
    refine loop _ [] _ _ _ (show flatS [] from rfl) (fun x hx => ?_) _ fun e1 e2 e3 S' => ?_
    · unfold rngD at hx
      obtain ⟨i, hi, rfl⟩ := List.mem_map.mp hx
      have hi := List.mem_range.mp hi
      refine ⟨_, rfl, by omega, by omega, ?_⟩
      rcases hn with hn | ⟨rfl, rfl⟩
      · left; omega
      · right; exact ⟨rfl, by omega⟩
    · refine aft_nx ?_
      repeat' trivial
  obtain ⟨d, S, e, rfl⟩ := key.eq
  exact ⟨S, e⟩
/-! what is reckoned outright -/
theorem ev_calc {α : Type} {m : R α} {P : α → Sto → Prop} {a : α} {S' : Sto} (e : m = .ok a S') (q : P a S') : Ev m P := by
  rw [e]
  exact q
end Lw

/-! k42: printed by mk42.py -/
noncomputable section
namespace Lw
open PySem PySem.Spec PyProof.Rows L2 Pv
local macro_rules | `(tactic| trivial) => `(tactic| first
  | with_reducible refine ev_seq ?_ | with_reducible refine ev_set ?_ | with_reducible refine ev_ret ?_ | with_reducible refine aft_nx ?_ | with_reducible refine aft_rt ?_ | with_reducible refine ev_next ?_ | with_reducible refine ev_ifS ?_ | with_reducible refine ev_par ?_ | with_reducible refine ev_asg ?_ | with_reducible refine ev_expr ?_
  | with_reducible refine ev_K ?_ | ((with_reducible apply ev_V); exact rfl) | with_reducible refine ev_bin ?_ | with_reducible refine ev_un ?_ | with_reducible refine ev_nil ?_ | with_reducible refine ev_cons ?_ | with_reducible refine ev_call ?_ | with_reducible refine ev_app ?_ | with_reducible refine ev_appK ?_ | with_reducible refine ev_tup ?_ | with_reducible refine ev_lst ?_ | with_reducible refine ev_cell ?_
  | with_reducible refine ev_bool ?_ | with_reducible refine ev_if ?_ | with_reducible refine ev_and ?_ | with_reducible refine ev_or ?_ | with_reducible refine ev_not ?_ | with_reducible refine ev_orV ?_ | with_reducible refine ev_notV ?_ | with_reducible refine ev_chain ?_ | with_reducible refine ev_sl ?_ | with_reducible refine ev_noPart ?_ | with_reducible refine ev_part ?_
  | with_reducible refine exB ?_ | with_reducible refine exI ?_ | with_reducible refine exS ?_ | with_reducible refine ex2 ?_ | with_reducible refine brT ?_ | with_reducible refine brF ?_ | with_reducible refine brNT ?_ | with_reducible refine brNF ?_
  | with_reducible refine br (fun _ => ?_) (fun _ => ?_)
  | with_reducible refine s_add_ii ?_ | with_reducible refine s_sub ?_ | with_reducible refine s_lt ?_ | with_reducible refine s_le ?_ | with_reducible refine s_gt ?_ | with_reducible refine s_ge ?_ | with_reducible refine s_eq_ii ?_ | with_reducible refine s_ne_ii ?_ | with_reducible refine s_neg ?_
  | with_reducible refine s_eq_ss ?_ | with_reducible refine s_ne_ss ?_ | with_reducible refine s_inS ?_ | with_reducible refine s_len_t ?_ | with_reducible refine s_len_l ?_ | with_reducible refine s_len_c ?_ | with_reducible refine s_abs ?_ | with_reducible refine s_int ?_ | with_reducible refine s_intB ?_ | with_reducible refine s_min2 ?_ | with_reducible refine s_max2 ?_
  | with_reducible refine s_ix_cell (by assumption) rfl ?_ | with_reducible refine s_mod (by omega) ?_ | with_reducible refine s_div (by omega) ?_ | with_reducible refine s_mul_ii (by omega) ?_
  | with_reducible refine turn_nx ?_ | with_reducible refine turn_rt ?_ | with_reducible refine ret_rt ?_ | with_reducible refine ret_nx ?_ | with_reducible refine len1 rfl ?_
  | with_reducible refine s_len_s (by first | assumption | omega) ?_ | with_reducible refine s_to_s (by first | decide | omega) (by omega) ?_ | with_reducible refine s_from_s (by first | decide | omega) (by omega) ?_ | with_reducible refine s_to_t (by first | decide | omega) ?_ | with_reducible refine s_from_t (by first | decide | omega) ?_
  | ((with_reducible apply s_ix_t); exact rfl) | ((with_reducible apply s_ix_l); exact rfl)
  | with_reducible refine s_rev_t ?_ | with_reducible refine s_list_t ?_ | with_reducible refine s_list_l ?_ | (with_reducible apply s_add_tt; exact Nat.le_of_ble_eq_true rfl)
  | with_reducible refine ev_strM ?_ | with_reducible refine ev_strM0 ?_ | with_reducible refine ev_sub ?_
  | ((with_reducible apply brN); all_goals intro _) | ((with_reducible refine And.intro (And.intro ?_ ?_) ?_); (focus exact rfl); (focus exact rfl)) | ((with_reducible refine And.intro ?_ ?_); (focus exact Nat.le_of_ble_eq_true rfl))
  | ((with_reducible refine s_isi' (b := true) ?_ ?_ ?_ ?_); (focus exact rfl); (focus exact rfl); (focus exact rfl)) | ((with_reducible refine s_isi' (b := false) ?_ ?_ ?_ ?_); (focus exact rfl); (focus exact rfl); (focus exact rfl)))


def FST (r : Int) : D := valOf (d_plain_dictionary [.tup [txt [97], txt (List.replicate (1 + r).toNat 97 ++ [98])]] [])
def ROWS : Nat → List D
  | 0 => [txt []]
  | n + 1 => (ROWS n).map (fun d => match d with | .str x => .str (x ++ ⟨#[97]⟩) | d => d) ++ (ROWS n).map (fun d => match d with | .str x => .str (x ++ ⟨#[98]⟩) | d => d)
def TW (r : Int) : D := match FST r with
  | .tup xs => valOf (match fSortedC [.tup (xs ++ [.tup [txt [97], txt [122, 122]]])] [] with | some (.lst ys, S) => .ok (.tup ys) S | _ => .no)
  | _ => .non
section
variable {k : Nat} {S : Sto} {x1 x2 x3 x4 x5 x6 x7 x8 x9 x10 : Option D}
theorem c1_0 : s__law_right_1 [some (.cell k), some (.int (1 + 0)), x2, x3, x4, x5, x6, x7, x8, x9, x10] S = .ok (.nx [some (.cell k), some (.int (1 + 0)), some (FST 0), x3, x4, x5, x6, x7, x8, x9, x10]) S := by kernel_rfl
theorem c1_1 : s__law_right_1 [some (.cell k), some (.int (1 + 1)), x2, x3, x4, x5, x6, x7, x8, x9, x10] S = .ok (.nx [some (.cell k), some (.int (1 + 1)), some (FST 1), x3, x4, x5, x6, x7, x8, x9, x10]) S := by kernel_rfl
theorem c1_2 : s__law_right_1 [some (.cell k), some (.int (1 + 2)), x2, x3, x4, x5, x6, x7, x8, x9, x10] S = .ok (.nx [some (.cell k), some (.int (1 + 2)), some (FST 2), x3, x4, x5, x6, x7, x8, x9, x10]) S := by kernel_rfl
theorem c1_3 : s__law_right_1 [some (.cell k), some (.int (1 + 3)), x2, x3, x4, x5, x6, x7, x8, x9, x10] S = .ok (.nx [some (.cell k), some (.int (1 + 3)), some (FST 3), x3, x4, x5, x6, x7, x8, x9, x10]) S := by kernel_rfl
theorem c1_4 : s__law_right_1 [some (.cell k), some (.int (1 + 4)), x2, x3, x4, x5, x6, x7, x8, x9, x10] S = .ok (.nx [some (.cell k), some (.int (1 + 4)), some (FST 4), x3, x4, x5, x6, x7, x8, x9, x10]) S := by kernel_rfl
theorem c1_5 : s__law_right_1 [some (.cell k), some (.int (1 + 5)), x2, x3, x4, x5, x6, x7, x8, x9, x10] S = .ok (.nx [some (.cell k), some (.int (1 + 5)), some (FST 5), x3, x4, x5, x6, x7, x8, x9, x10]) S := by kernel_rfl
theorem c1_6 : s__law_right_1 [some (.cell k), some (.int (1 + 6)), x2, x3, x4, x5, x6, x7, x8, x9, x10] S = .ok (.nx [some (.cell k), some (.int (1 + 6)), some (FST 6), x3, x4, x5, x6, x7, x8, x9, x10]) S := by kernel_rfl
theorem c1 {r : Int} (h0 : 0 ≤ r) (h1 : r < 7) : s__law_right_1 [some (.cell k), some (.int (1 + r)), x2, x3, x4, x5, x6, x7, x8, x9, x10] S = .ok (.nx [some (.cell k), some (.int (1 + r)), some (FST r), x3, x4, x5, x6, x7, x8, x9, x10]) S := by
  have h : r = 0 ∨ r = 1 ∨ r = 2 ∨ r = 3 ∨ r = 4 ∨ r = 5 ∨ r = 6 := by omega
  rcases h with rfl | rfl | rfl | rfl | rfl | rfl | rfl
  · exact c1_0
  · exact c1_1
  · exact c1_2
  · exact c1_3
  · exact c1_4
  · exact c1_5
  · exact c1_6
theorem c2_0 : s__law_right_2 [some (.cell k), some (.int (1 + 0)), some (FST 0), x3, x4, x5, x6, x7, x8, x9, x10] S = .ok (.nx [some (.cell k), some (.int (1 + 0)), some (FST 0), x3, x4, x5, x6, x7, x8, x9, x10]) S := by kernel_rfl
theorem c2_1 : s__law_right_2 [some (.cell k), some (.int (1 + 1)), some (FST 1), x3, x4, x5, x6, x7, x8, x9, x10] S = .ok (.nx [some (.cell k), some (.int (1 + 1)), some (FST 1), x3, x4, x5, x6, x7, x8, x9, x10]) S := by kernel_rfl
theorem c2_2 : s__law_right_2 [some (.cell k), some (.int (1 + 2)), some (FST 2), x3, x4, x5, x6, x7, x8, x9, x10] S = .ok (.nx [some (.cell k), some (.int (1 + 2)), some (FST 2), x3, x4, x5, x6, x7, x8, x9, x10]) S := by kernel_rfl
theorem c2_3 : s__law_right_2 [some (.cell k), some (.int (1 + 3)), some (FST 3), x3, x4, x5, x6, x7, x8, x9, x10] S = .ok (.nx [some (.cell k), some (.int (1 + 3)), some (FST 3), x3, x4, x5, x6, x7, x8, x9, x10]) S := by kernel_rfl
theorem c2_4 : s__law_right_2 [some (.cell k), some (.int (1 + 4)), some (FST 4), x3, x4, x5, x6, x7, x8, x9, x10] S = .ok (.nx [some (.cell k), some (.int (1 + 4)), some (FST 4), x3, x4, x5, x6, x7, x8, x9, x10]) S := by kernel_rfl
theorem c2_5 : s__law_right_2 [some (.cell k), some (.int (1 + 5)), some (FST 5), x3, x4, x5, x6, x7, x8, x9, x10] S = .ok (.nx [some (.cell k), some (.int (1 + 5)), some (FST 5), x3, x4, x5, x6, x7, x8, x9, x10]) S := by kernel_rfl
theorem c2_6 : s__law_right_2 [some (.cell k), some (.int (1 + 6)), some (FST 6), x3, x4, x5, x6, x7, x8, x9, x10] S = .ok (.nx [some (.cell k), some (.int (1 + 6)), some (FST 6), x3, x4, x5, x6, x7, x8, x9, x10]) S := by kernel_rfl
theorem c2 {r : Int} (h0 : 0 ≤ r) (h1 : r < 7) : s__law_right_2 [some (.cell k), some (.int (1 + r)), some (FST r), x3, x4, x5, x6, x7, x8, x9, x10] S = .ok (.nx [some (.cell k), some (.int (1 + r)), some (FST r), x3, x4, x5, x6, x7, x8, x9, x10]) S := by
  have h : r = 0 ∨ r = 1 ∨ r = 2 ∨ r = 3 ∨ r = 4 ∨ r = 5 ∨ r = 6 := by omega
  rcases h with rfl | rfl | rfl | rfl | rfl | rfl | rfl
  · exact c2_0
  · exact c2_1
  · exact c2_2
  · exact c2_3
  · exact c2_4
  · exact c2_5
  · exact c2_6
theorem c4_0 : s__law_right_4 [some (.cell k), x1, x2, some (.int (2 + 0)), x4, x5, x6, x7, x8, x9, x10] S = .ok (.nx [some (.cell k), x1, x2, some (.int (2 + 0)), x4, x5, x6, x7, x8, x9, x10]) S := by kernel_rfl
theorem c4_1 : s__law_right_4 [some (.cell k), x1, x2, some (.int (2 + 1)), x4, x5, x6, x7, x8, x9, x10] S = .ok (.nx [some (.cell k), x1, x2, some (.int (2 + 1)), x4, x5, x6, x7, x8, x9, x10]) S := by kernel_rfl
theorem c4_2 : s__law_right_4 [some (.cell k), x1, x2, some (.int (2 + 2)), x4, x5, x6, x7, x8, x9, x10] S = .ok (.nx [some (.cell k), x1, x2, some (.int (2 + 2)), x4, x5, x6, x7, x8, x9, x10]) S := by kernel_rfl
theorem c4_3 : s__law_right_4 [some (.cell k), x1, x2, some (.int (2 + 3)), x4, x5, x6, x7, x8, x9, x10] S = .ok (.nx [some (.cell k), x1, x2, some (.int (2 + 3)), x4, x5, x6, x7, x8, x9, x10]) S := by kernel_rfl
theorem c4_4 : s__law_right_4 [some (.cell k), x1, x2, some (.int (2 + 4)), x4, x5, x6, x7, x8, x9, x10] S = .ok (.nx [some (.cell k), x1, x2, some (.int (2 + 4)), x4, x5, x6, x7, x8, x9, x10]) S := by kernel_rfl
theorem c4_5 : s__law_right_4 [some (.cell k), x1, x2, some (.int (2 + 5)), x4, x5, x6, x7, x8, x9, x10] S = .ok (.nx [some (.cell k), x1, x2, some (.int (2 + 5)), x4, x5, x6, x7, x8, x9, x10]) S := by kernel_rfl
theorem c4_6 : s__law_right_4 [some (.cell k), x1, x2, some (.int (2 + 6)), x4, x5, x6, x7, x8, x9, x10] S = .ok (.nx [some (.cell k), x1, x2, some (.int (2 + 6)), x4, x5, x6, x7, x8, x9, x10]) S := by kernel_rfl
theorem c4 {r : Int} (h0 : 0 ≤ r) (h1 : r < 7) : s__law_right_4 [some (.cell k), x1, x2, some (.int (2 + r)), x4, x5, x6, x7, x8, x9, x10] S = .ok (.nx [some (.cell k), x1, x2, some (.int (2 + r)), x4, x5, x6, x7, x8, x9, x10]) S := by
  have h : r = 0 ∨ r = 1 ∨ r = 2 ∨ r = 3 ∨ r = 4 ∨ r = 5 ∨ r = 6 := by omega
  rcases h with rfl | rfl | rfl | rfl | rfl | rfl | rfl
  · exact c4_0
  · exact c4_1
  · exact c4_2
  · exact c4_3
  · exact c4_4
  · exact c4_5
  · exact c4_6
theorem c6 : s__law_right_6 [some (.cell k), x1, x2, x3, x4, x5, x6, x7, x8, x9, x10] S = .ok (.nx [some (.cell k), x1, x2, x3, x4, x5, some (.lst [txt []]), x7, x8, x9, x10]) S := by kernel_rfl
theorem c7 : s__law_right_7 [some (.cell k), x1, x2, x3, x4, x5, some (.lst [txt []]), x7, x8, x9, x10] S = .ok (.nx [some (.cell k), x1, x2, x3, x4, x5, some (.lst (ROWS 4)), some (.int 3), x8, x9, x10]) S := by kernel_rfl
theorem c8_0 : s__law_right_8 [some (.cell k), x1, x2, x3, x4, some (.int (4 + 0)), some (.lst (ROWS 4)), x7, x8, x9, x10] S = .ok (.nx [some (.cell k), x1, x2, x3, x4, some (.int (4 + 0)), some (.lst (ROWS 4)), x7, x8, x9, x10]) S := by kernel_rfl
theorem c8_1 : s__law_right_8 [some (.cell k), x1, x2, x3, x4, some (.int (4 + 1)), some (.lst (ROWS 4)), x7, x8, x9, x10] S = .ok (.nx [some (.cell k), x1, x2, x3, x4, some (.int (4 + 1)), some (.lst (ROWS 4)), x7, x8, x9, x10]) S := by kernel_rfl
theorem c8_2 : s__law_right_8 [some (.cell k), x1, x2, x3, x4, some (.int (4 + 2)), some (.lst (ROWS 4)), x7, x8, x9, x10] S = .ok (.nx [some (.cell k), x1, x2, x3, x4, some (.int (4 + 2)), some (.lst (ROWS 4)), x7, x8, x9, x10]) S := by kernel_rfl
theorem c8_3 : s__law_right_8 [some (.cell k), x1, x2, x3, x4, some (.int (4 + 3)), some (.lst (ROWS 4)), x7, x8, x9, x10] S = .ok (.nx [some (.cell k), x1, x2, x3, x4, some (.int (4 + 3)), some (.lst (ROWS 4)), x7, x8, x9, x10]) S := by kernel_rfl
theorem c8_4 : s__law_right_8 [some (.cell k), x1, x2, x3, x4, some (.int (4 + 4)), some (.lst (ROWS 4)), x7, x8, x9, x10] S = .ok (.nx [some (.cell k), x1, x2, x3, x4, some (.int (4 + 4)), some (.lst (ROWS 4)), x7, x8, x9, x10]) S := by kernel_rfl
theorem c8 {r : Int} (h0 : 0 ≤ r) (h1 : r < 5) : s__law_right_8 [some (.cell k), x1, x2, x3, x4, some (.int (4 + r)), some (.lst (ROWS 4)), x7, x8, x9, x10] S = .ok (.nx [some (.cell k), x1, x2, x3, x4, some (.int (4 + r)), some (.lst (ROWS 4)), x7, x8, x9, x10]) S := by
  have h : r = 0 ∨ r = 1 ∨ r = 2 ∨ r = 3 ∨ r = 4 := by omega
  rcases h with rfl | rfl | rfl | rfl | rfl
  · exact c8_0
  · exact c8_1
  · exact c8_2
  · exact c8_3
  · exact c8_4
theorem c10_0 : s__law_right_10 [some (.cell k), x1, x2, x3, x4, x5, x6, x7, x8, some (.int 0), x10] S = .ok (.nx [some (.cell k), x1, x2, x3, x4, x5, x6, x7, x8, some (.int 0), x10]) S := by kernel_rfl
theorem c10_1 : s__law_right_10 [some (.cell k), x1, x2, x3, x4, x5, x6, x7, x8, some (.int 1), x10] S = .ok (.nx [some (.cell k), x1, x2, x3, x4, x5, x6, x7, x8, some (.int 1), x10]) S := by kernel_rfl
theorem c10_2 : s__law_right_10 [some (.cell k), x1, x2, x3, x4, x5, x6, x7, x8, some (.int 2), x10] S = .ok (.nx [some (.cell k), x1, x2, x3, x4, x5, x6, x7, x8, some (.int 2), x10]) S := by kernel_rfl
theorem c10_3 : s__law_right_10 [some (.cell k), x1, x2, x3, x4, x5, x6, x7, x8, some (.int 3), x10] S = .ok (.nx [some (.cell k), x1, x2, x3, x4, x5, x6, x7, x8, some (.int 3), x10]) S := by kernel_rfl
theorem c10_4 : s__law_right_10 [some (.cell k), x1, x2, x3, x4, x5, x6, x7, x8, some (.int 4), x10] S = .ok (.nx [some (.cell k), x1, x2, x3, x4, x5, x6, x7, x8, some (.int 4), x10]) S := by kernel_rfl
theorem c10_5 : s__law_right_10 [some (.cell k), x1, x2, x3, x4, x5, x6, x7, x8, some (.int 5), x10] S = .ok (.nx [some (.cell k), x1, x2, x3, x4, x5, x6, x7, x8, some (.int 5), x10]) S := by kernel_rfl
theorem c10 {r : Int} (h0 : 0 ≤ r) (h1 : r < 6) : s__law_right_10 [some (.cell k), x1, x2, x3, x4, x5, x6, x7, x8, some (.int r), x10] S = .ok (.nx [some (.cell k), x1, x2, x3, x4, x5, x6, x7, x8, some (.int r), x10]) S := by
  have h : r = 0 ∨ r = 1 ∨ r = 2 ∨ r = 3 ∨ r = 4 ∨ r = 5 := by omega
  rcases h with rfl | rfl | rfl | rfl | rfl | rfl
  · exact c10_0
  · exact c10_1
  · exact c10_2
  · exact c10_3
  · exact c10_4
  · exact c10_5
theorem c11_0 : s__law_right_11 [some (.cell k), x1, x2, x3, x4, x5, x6, x7, x8, some (.int 0), x10] S = .ok (.nx [some (.cell k), x1, x2, x3, x4, x5, x6, x7, x8, some (.int 0), x10]) S := by kernel_rfl
theorem c11_1 : s__law_right_11 [some (.cell k), x1, x2, x3, x4, x5, x6, x7, x8, some (.int 1), x10] S = .ok (.nx [some (.cell k), x1, x2, x3, x4, x5, x6, x7, x8, some (.int 1), x10]) S := by kernel_rfl
theorem c11_2 : s__law_right_11 [some (.cell k), x1, x2, x3, x4, x5, x6, x7, x8, some (.int 2), x10] S = .ok (.nx [some (.cell k), x1, x2, x3, x4, x5, x6, x7, x8, some (.int 2), x10]) S := by kernel_rfl
theorem c11_3 : s__law_right_11 [some (.cell k), x1, x2, x3, x4, x5, x6, x7, x8, some (.int 3), x10] S = .ok (.nx [some (.cell k), x1, x2, x3, x4, x5, x6, x7, x8, some (.int 3), x10]) S := by kernel_rfl
theorem c11_4 : s__law_right_11 [some (.cell k), x1, x2, x3, x4, x5, x6, x7, x8, some (.int 4), x10] S = .ok (.nx [some (.cell k), x1, x2, x3, x4, x5, x6, x7, x8, some (.int 4), x10]) S := by kernel_rfl
theorem c11_5 : s__law_right_11 [some (.cell k), x1, x2, x3, x4, x5, x6, x7, x8, some (.int 5), x10] S = .ok (.nx [some (.cell k), x1, x2, x3, x4, x5, x6, x7, x8, some (.int 5), x10]) S := by kernel_rfl
theorem c11 {r : Int} (h0 : 0 ≤ r) (h1 : r < 6) : s__law_right_11 [some (.cell k), x1, x2, x3, x4, x5, x6, x7, x8, some (.int r), x10] S = .ok (.nx [some (.cell k), x1, x2, x3, x4, x5, x6, x7, x8, some (.int r), x10]) S := by
  have h : r = 0 ∨ r = 1 ∨ r = 2 ∨ r = 3 ∨ r = 4 ∨ r = 5 := by omega
  rcases h with rfl | rfl | rfl | rfl | rfl | rfl
  · exact c11_0
  · exact c11_1
  · exact c11_2
  · exact c11_3
  · exact c11_4
  · exact c11_5
theorem c12_0 : s__law_right_12 [some (.cell k), x1, some (FST 0), x3, x4, x5, x6, x7, x8, x9, x10] S = .ok (.nx [some (.cell k), x1, some (FST 0), x3, x4, x5, x6, x7, x8, x9, some (TW 0)]) S := by kernel_rfl
theorem c12_1 : s__law_right_12 [some (.cell k), x1, some (FST 1), x3, x4, x5, x6, x7, x8, x9, x10] S = .ok (.nx [some (.cell k), x1, some (FST 1), x3, x4, x5, x6, x7, x8, x9, some (TW 1)]) S := by kernel_rfl
theorem c12_2 : s__law_right_12 [some (.cell k), x1, some (FST 2), x3, x4, x5, x6, x7, x8, x9, x10] S = .ok (.nx [some (.cell k), x1, some (FST 2), x3, x4, x5, x6, x7, x8, x9, some (TW 2)]) S := by kernel_rfl
theorem c12_3 : s__law_right_12 [some (.cell k), x1, some (FST 3), x3, x4, x5, x6, x7, x8, x9, x10] S = .ok (.nx [some (.cell k), x1, some (FST 3), x3, x4, x5, x6, x7, x8, x9, some (TW 3)]) S := by kernel_rfl
theorem c12_4 : s__law_right_12 [some (.cell k), x1, some (FST 4), x3, x4, x5, x6, x7, x8, x9, x10] S = .ok (.nx [some (.cell k), x1, some (FST 4), x3, x4, x5, x6, x7, x8, x9, some (TW 4)]) S := by kernel_rfl
theorem c12_5 : s__law_right_12 [some (.cell k), x1, some (FST 5), x3, x4, x5, x6, x7, x8, x9, x10] S = .ok (.nx [some (.cell k), x1, some (FST 5), x3, x4, x5, x6, x7, x8, x9, some (TW 5)]) S := by kernel_rfl
theorem c12_6 : s__law_right_12 [some (.cell k), x1, some (FST 6), x3, x4, x5, x6, x7, x8, x9, x10] S = .ok (.nx [some (.cell k), x1, some (FST 6), x3, x4, x5, x6, x7, x8, x9, some (TW 6)]) S := by kernel_rfl
theorem c12 {r : Int} (h0 : 0 ≤ r) (h1 : r < 7) : s__law_right_12 [some (.cell k), x1, some (FST r), x3, x4, x5, x6, x7, x8, x9, x10] S = .ok (.nx [some (.cell k), x1, some (FST r), x3, x4, x5, x6, x7, x8, x9, some (TW r)]) S := by
  have h : r = 0 ∨ r = 1 ∨ r = 2 ∨ r = 3 ∨ r = 4 ∨ r = 5 ∨ r = 6 := by omega
  rcases h with rfl | rfl | rfl | rfl | rfl | rfl | rfl
  · exact c12_0
  · exact c12_1
  · exact c12_2
  · exact c12_3
  · exact c12_4
  · exact c12_5
  · exact c12_6
theorem c13_0 : s__law_right_13 [some (.cell k), x1, some (FST 0), x3, x4, x5, x6, x7, x8, x9, some (TW 0)] S = .ok (.rt (.bl true)) S := by kernel_rfl
theorem c13_1 : s__law_right_13 [some (.cell k), x1, some (FST 1), x3, x4, x5, x6, x7, x8, x9, some (TW 1)] S = .ok (.rt (.bl true)) S := by kernel_rfl
theorem c13_2 : s__law_right_13 [some (.cell k), x1, some (FST 2), x3, x4, x5, x6, x7, x8, x9, some (TW 2)] S = .ok (.rt (.bl true)) S := by kernel_rfl
theorem c13_3 : s__law_right_13 [some (.cell k), x1, some (FST 3), x3, x4, x5, x6, x7, x8, x9, some (TW 3)] S = .ok (.rt (.bl true)) S := by kernel_rfl
theorem c13_4 : s__law_right_13 [some (.cell k), x1, some (FST 4), x3, x4, x5, x6, x7, x8, x9, some (TW 4)] S = .ok (.rt (.bl true)) S := by kernel_rfl
theorem c13_5 : s__law_right_13 [some (.cell k), x1, some (FST 5), x3, x4, x5, x6, x7, x8, x9, some (TW 5)] S = .ok (.rt (.bl true)) S := by kernel_rfl
theorem c13_6 : s__law_right_13 [some (.cell k), x1, some (FST 6), x3, x4, x5, x6, x7, x8, x9, some (TW 6)] S = .ok (.rt (.bl true)) S := by kernel_rfl
theorem c13 {r : Int} (h0 : 0 ≤ r) (h1 : r < 7) : s__law_right_13 [some (.cell k), x1, some (FST r), x3, x4, x5, x6, x7, x8, x9, some (TW r)] S = .ok (.rt (.bl true)) S := by
  have h : r = 0 ∨ r = 1 ∨ r = 2 ∨ r = 3 ∨ r = 4 ∨ r = 5 ∨ r = 6 := by omega
  rcases h with rfl | rfl | rfl | rfl | rfl | rfl | rfl
  · exact c13_0
  · exact c13_1
  · exact c13_2
  · exact c13_3
  · exact c13_4
  · exact c13_5
  · exact c13_6
end
theorem t_right {k : Nat} {n : Int} {S0 S : Sto} {P : D → Sto → Prop} (h : PS k n S0 S) (hn : n ≤ 10000) (q : ∀ S', PS k (n + 100) S0 S' → P (.bl true) S') : Ev (d__law_right [.cell k] S) P := by
  refine ev_fnT ?_
  unfold m__law_right
  refine ev_seq ?_
  unfold s__law_right_0
  repeat' trivial
  refine t_take h (by omega) (by omega) fun r S1 a1 b1 h1 => ?_
  repeat' trivial
  unfold m__law_right_1
  refine ev_seq (ev_calc (c1 a1 b1) (aft_nx ?_))
  unfold m__law_right_2
  refine ev_seq (ev_calc (c2 a1 b1) (aft_nx ?_))
  unfold m__law_right_3
  refine ev_seq ?_
  unfold s__law_right_3
  repeat' trivial
  refine t_take h1 (by omega) (by omega) fun s S2 a2 b2 h2 => ?_
  repeat' trivial
  unfold m__law_right_4
  refine ev_seq (ev_calc (c4 a2 b2) (aft_nx ?_))
  unfold m__law_right_5
  refine ev_seq ?_
  unfold s__law_right_5
  repeat' trivial
  refine t_take h2 (by omega) (by omega) fun z S3 a3 b3 h3 => ?_
  repeat' trivial
  unfold m__law_right_6
  refine ev_seq (ev_calc c6 (aft_nx ?_))
  unfold m__law_right_7
  refine ev_seq (ev_calc c7 (aft_nx ?_))
  unfold m__law_right_8
  refine ev_seq (ev_calc (c8 a3 b3) (aft_nx ?_))
  unfold m__law_right_9
  refine ev_seq ?_
  unfold s__law_right_9
  repeat' trivial
  refine t_take h3 (by omega) (by omega) fun c S4 a4 b4 h4 => ?_
  repeat' trivial
  unfold m__law_right_10
  refine ev_seq (ev_calc (c10 a4 b4) (aft_nx ?_))
  unfold m__law_right_11
  refine ev_seq (ev_calc (c11 a4 b4) (aft_nx ?_))
  unfold m__law_right_12
  refine ev_seq (ev_calc (c12 a1 b1) (aft_nx ?_))
  unfold m__law_right_13
  exact ev_calc (c13 a1 b1) (ret_rt ⟨h4.len.trans h.len.symm, h4.fl, rfl, q S4 (h4.up (by omega))⟩)
theorem law_true (ns : List Int) (h : ns.length ≤ 63) : ∃ S, d_law [.scr (ns.map D.int)] [] = .ok (.bl true) S := law_of t_right ns h
end Lw
end

namespace Lw
open PySem PySem.Spec PyProof.Rows L2 Pv
theorem _root_.L2.FunD.same {K : PySem.W.Frag} {x qual : Str} {params : Arguments} {body : List Stmt} {scope : Scope} {dvs : List V} {kws : List (Str × V)} {f : Addr} {fd fd' : FuncData} (F : FunD K x qual params body scope dvs kws f fd) (F' : FunD K x qual params body scope dvs kws f fd') : fd = fd' := by
  obtain ⟨oc, od, dV, kV, doc, pm, an, cdv, ct, osl, e1, lk, _⟩ := F.ex
  obtain ⟨oc', od', dV', kV', doc', pm', an', cdv', ct', osl', e1', lk', _⟩ := F'.ex
  rw [lk] at lk'
  cases lk'
  rfl
end Lw
namespace Lw
open PySem PySem.Spec PyProof.Rows L2 Pv
/-! ### the head: what stands behind the top -/
def dd (i : Nat) (x : Str) : He.DefD := ⟨(x, none), x, x, defArgs (top i), defBody (top i), defScope (top i), [], []⟩
def dds : List He.DefD := [dd 77 "_law_cells", dd 75 "_law_pot", dd 12 "is_ascending", dd 13 "are_signs", dd 14 "is_signs", dd 21 "is_code_of", dd 23 "check_code", dd 25 "plain_dictionary", dd 76 "_law_take", dd 47 "begins_by", dd 29 "step_by", dd 30 "steps_of", dd 31 "gathered", dd 49 "endless_of", dd 24 "code_by", dd 51 "way_to", dd 48 "led_by", dd 50 "place_to", dd 53 "round_by", dd 52 "ring_by", dd 27 "common_many", dd 55 "alike_on", dd 54 "ranks_by", dd 56 "starts_by", dd 58 "is_most", dd 57 "readings_by", dd 59 "heard_by", dd 11 "is_tuple_of", dd 19 "is_entry_of", dd 20 "is_dictionary_of", dd 22 "check_dictionary", dd 65 "heard_told", dd 8 "is_integer", dd 9 "is_between", dd 10 "are_between", dd 38 "is_reading_of", dd 39 "row_by", dd 62 "are_along", dd 60 "is_natural", dd 34 "is_rest", dd 61 "are_ranks", dd 63 "is_ring", dd 64 "shows_by", dd 66 "shows_heard", dd 67 "least_heard", dd 78 "_law_is_right", dd 15 "is_row_of", dd 36 "check_row", dd 37 "check_read", dd 40 "entries_at", dd 41 "come_to", dd 69 "longest_on", dd 70 "longest_with", dd 71 "longest_each", dd 72 "firsts_of", dd 73 "decided_at", dd 79 "_law_right", dd 80 "law"]
def fcs : List He.Fa := [.glo "_law_cells", .glo "_law_pot", .glo "is_ascending", .glo "are_signs", .glo "is_signs", .glo "is_code_of", .glo "check_code", .glo "plain_dictionary", .glo "_law_take", .glo "begins_by", .glo "step_by", .glo "steps_of", .glo "gathered", .glo "endless_of", .glo "code_by", .glo "way_to", .glo "led_by", .glo "place_to", .glo "round_by", .glo "ring_by", .glo "common_many", .glo "alike_on", .glo "ranks_by", .glo "starts_by", .glo "is_most", .glo "readings_by", .glo "heard_by", .glo "is_tuple_of", .glo "is_entry_of", .glo "is_dictionary_of", .glo "check_dictionary", .glo "heard_told", .glo "is_integer", .glo "is_between", .glo "are_between", .glo "is_reading_of", .glo "row_by", .glo "are_along", .glo "is_natural", .glo "is_rest", .glo "are_ranks", .glo "is_ring", .glo "shows_by", .glo "shows_heard", .glo "least_heard", .glo "_law_is_right", .glo "is_row_of", .glo "check_row", .glo "check_read", .glo "entries_at", .glo "come_to", .glo "longest_on", .glo "longest_with", .glo "longest_each", .glo "firsts_of", .glo "decided_at", .glo "_law_right", .glo "law", .free "abs", .free "all", .free "any", .free "bool", .free "dict", .free "enumerate", .free "int", .free "isinstance", .free "len", .free "list", .free "max", .free "min", .free "range", .free "repr", .free "set", .free "sorted", .free "str", .free "sum", .free "tuple", .free "zip", .str "ENDLESS" "endless", .int "FIVE" 5, .int "FOUR" 4, .str "HEARD" "heard", .int "MOST_ENTRIES" 16, .int "MOST_OUTLINE" 8, .int "MOST_REST" 7, .int "MOST_ROW" 2000, .str "SIGNS" "abcdefghijklmnopqrstuvwxyz"]
abbrev Rw : PySem.W.OpenRow := PySem.W.OpenLaw.row PySem.Challenge.rw_onestrokeatatime_k42_great_strokes_that
abbrev hook : PySem.W.Hook := He.hookD 4 fcs dds
def seen (s : PySem.W.SharedT) : He.AlD := He.obsDG 4 fcs dds (HandSHeadRun.getT s)
theorem seen_eq (s : PySem.W.SharedT) : seen s = hook.obs s.abs := He.obsDG_eq (HandSHeadRun.getT_eq s)
def others : List Str := (["StrokeError", "BadCode", "BadDictionary", "BadRow", "SIGNS", "MOST_ROW", "is_integer", "is_between", "are_between", "is_tuple_of", "is_ascending", "are_signs", "is_signs", "is_row_of", "MOST_ENTRIES", "MOST_OUTLINE", "is_entry_of", "is_dictionary_of", "is_code_of", "check_dictionary", "check_code", "code_by", "plain_dictionary", "common_many", "step_by", "steps_of", "gathered", "MOST_REST", "is_rest", "check_row"] : List Str) ++ (["check_read", "is_reading_of", "row_by", "entries_at", "come_to", "HEARD", "ENDLESS", "FOUR", "FIVE", "begins_by", "led_by", "endless_of", "place_to", "way_to", "ring_by", "round_by", "ranks_by", "alike_on", "starts_by", "readings_by", "is_most", "heard_by", "is_natural", "are_ranks", "are_along", "is_ring", "shows_by", "heard_told", "shows_heard", "least_heard"] : List Str) ++ (["longest_on", "longest_with", "longest_each", "firsts_of", "decided_at", "_law_pot", "_law_take", "_law_cells", "_law_is_right", "_law_right"] : List Str)
theorem runs (w : World) : HandSHeadRun.RunEq Rw (PySem.W.view Rw.prog [80]) hook seen 4000 others w := by
  intro os
  kernel_rfl
theorem fx_of {K : PySem.W.Frag} {h : Heap} {mg : Str → Option Value} (X : K.In h) (G : h.Ns mainGlobals mg) (c : He.SaysD fcs dds K) : Fx K mg where
  b_abs := He.free_ok X G (c.fact 58 (f := .free "abs") rfl)
  b_all := He.free_ok X G (c.fact 59 (f := .free "all") rfl)
  b_any := He.free_ok X G (c.fact 60 (f := .free "any") rfl)
  b_bool := He.free_ok X G (c.fact 61 (f := .free "bool") rfl)
  b_dict := He.free_ok X G (c.fact 62 (f := .free "dict") rfl)
  b_enumerate := He.free_ok X G (c.fact 63 (f := .free "enumerate") rfl)
  b_int := He.free_ok X G (c.fact 64 (f := .free "int") rfl)
  b_isinstance := He.free_ok X G (c.fact 65 (f := .free "isinstance") rfl)
  b_len := He.free_ok X G (c.fact 66 (f := .free "len") rfl)
  b_list := He.free_ok X G (c.fact 67 (f := .free "list") rfl)
  b_max := He.free_ok X G (c.fact 68 (f := .free "max") rfl)
  b_min := He.free_ok X G (c.fact 69 (f := .free "min") rfl)
  b_range := He.free_ok X G (c.fact 70 (f := .free "range") rfl)
  b_repr := He.free_ok X G (c.fact 71 (f := .free "repr") rfl)
  b_set := He.free_ok X G (c.fact 72 (f := .free "set") rfl)
  b_sorted := He.free_ok X G (c.fact 73 (f := .free "sorted") rfl)
  b_str := He.free_ok X G (c.fact 74 (f := .free "str") rfl)
  b_sum := He.free_ok X G (c.fact 75 (f := .free "sum") rfl)
  b_tuple := He.free_ok X G (c.fact 76 (f := .free "tuple") rfl)
  b_zip := He.free_ok X G (c.fact 77 (f := .free "zip") rfl)
  g_ENDLESS := He.str_ok X G (c.fact 78 (f := .str "ENDLESS" "endless") rfl)
  g_FIVE := He.int_ok X G (c.fact 79 (f := .int "FIVE" 5) rfl)
  g_FOUR := He.int_ok X G (c.fact 80 (f := .int "FOUR" 4) rfl)
  g_HEARD := He.str_ok X G (c.fact 81 (f := .str "HEARD" "heard") rfl)
  g_MOST_ENTRIES := He.int_ok X G (c.fact 82 (f := .int "MOST_ENTRIES" 16) rfl)
  g_MOST_OUTLINE := He.int_ok X G (c.fact 83 (f := .int "MOST_OUTLINE" 8) rfl)
  g_MOST_REST := He.int_ok X G (c.fact 84 (f := .int "MOST_REST" 7) rfl)
  g_MOST_ROW := He.int_ok X G (c.fact 85 (f := .int "MOST_ROW" 2000) rfl)
  g_SIGNS := He.str_ok X G (c.fact 86 (f := .str "SIGNS" "abcdefghijklmnopqrstuvwxyz") rfl)
  f__law_cells := have ⟨fd, F⟩ := c.def_ 0 (d := dd 77 "_law_cells") rfl; ⟨_, fd, F, He.glo_ok X G (c.fact 0 (f := .glo "_law_cells") rfl)⟩
  f__law_pot := have ⟨fd, F⟩ := c.def_ 1 (d := dd 75 "_law_pot") rfl; ⟨_, fd, F, He.glo_ok X G (c.fact 1 (f := .glo "_law_pot") rfl)⟩
  f_is_ascending := have ⟨fd, F⟩ := c.def_ 2 (d := dd 12 "is_ascending") rfl; ⟨_, fd, F, He.glo_ok X G (c.fact 2 (f := .glo "is_ascending") rfl)⟩
  f_are_signs := have ⟨fd, F⟩ := c.def_ 3 (d := dd 13 "are_signs") rfl; ⟨_, fd, F, He.glo_ok X G (c.fact 3 (f := .glo "are_signs") rfl)⟩
  f_is_signs := have ⟨fd, F⟩ := c.def_ 4 (d := dd 14 "is_signs") rfl; ⟨_, fd, F, He.glo_ok X G (c.fact 4 (f := .glo "is_signs") rfl)⟩
  f_is_code_of := have ⟨fd, F⟩ := c.def_ 5 (d := dd 21 "is_code_of") rfl; ⟨_, fd, F, He.glo_ok X G (c.fact 5 (f := .glo "is_code_of") rfl)⟩
  f_check_code := have ⟨fd, F⟩ := c.def_ 6 (d := dd 23 "check_code") rfl; ⟨_, fd, F, He.glo_ok X G (c.fact 6 (f := .glo "check_code") rfl)⟩
  f_plain_dictionary := have ⟨fd, F⟩ := c.def_ 7 (d := dd 25 "plain_dictionary") rfl; ⟨_, fd, F, He.glo_ok X G (c.fact 7 (f := .glo "plain_dictionary") rfl)⟩
  f__law_take := have ⟨fd, F⟩ := c.def_ 8 (d := dd 76 "_law_take") rfl; ⟨_, fd, F, He.glo_ok X G (c.fact 8 (f := .glo "_law_take") rfl)⟩
  f_begins_by := have ⟨fd, F⟩ := c.def_ 9 (d := dd 47 "begins_by") rfl; ⟨_, fd, F, He.glo_ok X G (c.fact 9 (f := .glo "begins_by") rfl)⟩
  f_step_by := have ⟨fd, F⟩ := c.def_ 10 (d := dd 29 "step_by") rfl; ⟨_, fd, F, He.glo_ok X G (c.fact 10 (f := .glo "step_by") rfl)⟩
  f_steps_of := have ⟨fd, F⟩ := c.def_ 11 (d := dd 30 "steps_of") rfl; ⟨_, fd, F, He.glo_ok X G (c.fact 11 (f := .glo "steps_of") rfl)⟩
  f_gathered := have ⟨fd, F⟩ := c.def_ 12 (d := dd 31 "gathered") rfl; ⟨_, fd, F, He.glo_ok X G (c.fact 12 (f := .glo "gathered") rfl)⟩
  f_endless_of := have ⟨fd, F⟩ := c.def_ 13 (d := dd 49 "endless_of") rfl; ⟨_, fd, F, He.glo_ok X G (c.fact 13 (f := .glo "endless_of") rfl)⟩
  f_code_by := have ⟨fd, F⟩ := c.def_ 14 (d := dd 24 "code_by") rfl; ⟨_, fd, F, He.glo_ok X G (c.fact 14 (f := .glo "code_by") rfl)⟩
  f_way_to := have ⟨fd, F⟩ := c.def_ 15 (d := dd 51 "way_to") rfl; ⟨_, fd, F, He.glo_ok X G (c.fact 15 (f := .glo "way_to") rfl)⟩
  f_led_by := have ⟨fd, F⟩ := c.def_ 16 (d := dd 48 "led_by") rfl; ⟨_, fd, F, He.glo_ok X G (c.fact 16 (f := .glo "led_by") rfl)⟩
  f_place_to := have ⟨fd, F⟩ := c.def_ 17 (d := dd 50 "place_to") rfl; ⟨_, fd, F, He.glo_ok X G (c.fact 17 (f := .glo "place_to") rfl)⟩
  f_round_by := have ⟨fd, F⟩ := c.def_ 18 (d := dd 53 "round_by") rfl; ⟨_, fd, F, He.glo_ok X G (c.fact 18 (f := .glo "round_by") rfl)⟩
  f_ring_by := have ⟨fd, F⟩ := c.def_ 19 (d := dd 52 "ring_by") rfl; ⟨_, fd, F, He.glo_ok X G (c.fact 19 (f := .glo "ring_by") rfl)⟩
  f_common_many := have ⟨fd, F⟩ := c.def_ 20 (d := dd 27 "common_many") rfl; ⟨_, fd, F, He.glo_ok X G (c.fact 20 (f := .glo "common_many") rfl)⟩
  f_alike_on := have ⟨fd, F⟩ := c.def_ 21 (d := dd 55 "alike_on") rfl; ⟨_, fd, F, He.glo_ok X G (c.fact 21 (f := .glo "alike_on") rfl)⟩
  f_ranks_by := have ⟨fd, F⟩ := c.def_ 22 (d := dd 54 "ranks_by") rfl; ⟨_, fd, F, He.glo_ok X G (c.fact 22 (f := .glo "ranks_by") rfl)⟩
  f_starts_by := have ⟨fd, F⟩ := c.def_ 23 (d := dd 56 "starts_by") rfl; ⟨_, fd, F, He.glo_ok X G (c.fact 23 (f := .glo "starts_by") rfl)⟩
  f_is_most := have ⟨fd, F⟩ := c.def_ 24 (d := dd 58 "is_most") rfl; ⟨_, fd, F, He.glo_ok X G (c.fact 24 (f := .glo "is_most") rfl)⟩
  f_readings_by := have ⟨fd, F⟩ := c.def_ 25 (d := dd 57 "readings_by") rfl; ⟨_, fd, F, He.glo_ok X G (c.fact 25 (f := .glo "readings_by") rfl)⟩
  f_heard_by := have ⟨fd, F⟩ := c.def_ 26 (d := dd 59 "heard_by") rfl; ⟨_, fd, F, He.glo_ok X G (c.fact 26 (f := .glo "heard_by") rfl)⟩
  f_is_tuple_of := have ⟨fd, F⟩ := c.def_ 27 (d := dd 11 "is_tuple_of") rfl; ⟨_, fd, F, He.glo_ok X G (c.fact 27 (f := .glo "is_tuple_of") rfl)⟩
  f_is_entry_of := have ⟨fd, F⟩ := c.def_ 28 (d := dd 19 "is_entry_of") rfl; ⟨_, fd, F, He.glo_ok X G (c.fact 28 (f := .glo "is_entry_of") rfl)⟩
  f_is_dictionary_of := have ⟨fd, F⟩ := c.def_ 29 (d := dd 20 "is_dictionary_of") rfl; ⟨_, fd, F, He.glo_ok X G (c.fact 29 (f := .glo "is_dictionary_of") rfl)⟩
  f_check_dictionary := have ⟨fd, F⟩ := c.def_ 30 (d := dd 22 "check_dictionary") rfl; ⟨_, fd, F, He.glo_ok X G (c.fact 30 (f := .glo "check_dictionary") rfl)⟩
  f_heard_told := have ⟨fd, F⟩ := c.def_ 31 (d := dd 65 "heard_told") rfl; ⟨_, fd, F, He.glo_ok X G (c.fact 31 (f := .glo "heard_told") rfl)⟩
  f_is_integer := have ⟨fd, F⟩ := c.def_ 32 (d := dd 8 "is_integer") rfl; ⟨_, fd, F, He.glo_ok X G (c.fact 32 (f := .glo "is_integer") rfl)⟩
  f_is_between := have ⟨fd, F⟩ := c.def_ 33 (d := dd 9 "is_between") rfl; ⟨_, fd, F, He.glo_ok X G (c.fact 33 (f := .glo "is_between") rfl)⟩
  f_are_between := have ⟨fd, F⟩ := c.def_ 34 (d := dd 10 "are_between") rfl; ⟨_, fd, F, He.glo_ok X G (c.fact 34 (f := .glo "are_between") rfl)⟩
  f_is_reading_of := have ⟨fd, F⟩ := c.def_ 35 (d := dd 38 "is_reading_of") rfl; ⟨_, fd, F, He.glo_ok X G (c.fact 35 (f := .glo "is_reading_of") rfl)⟩
  f_row_by := have ⟨fd, F⟩ := c.def_ 36 (d := dd 39 "row_by") rfl; ⟨_, fd, F, He.glo_ok X G (c.fact 36 (f := .glo "row_by") rfl)⟩
  f_are_along := have ⟨fd, F⟩ := c.def_ 37 (d := dd 62 "are_along") rfl; ⟨_, fd, F, He.glo_ok X G (c.fact 37 (f := .glo "are_along") rfl)⟩
  f_is_natural := have ⟨fd, F⟩ := c.def_ 38 (d := dd 60 "is_natural") rfl; ⟨_, fd, F, He.glo_ok X G (c.fact 38 (f := .glo "is_natural") rfl)⟩
  f_is_rest := have ⟨fd, F⟩ := c.def_ 39 (d := dd 34 "is_rest") rfl; ⟨_, fd, F, He.glo_ok X G (c.fact 39 (f := .glo "is_rest") rfl)⟩
  f_are_ranks := have ⟨fd, F⟩ := c.def_ 40 (d := dd 61 "are_ranks") rfl; ⟨_, fd, F, He.glo_ok X G (c.fact 40 (f := .glo "are_ranks") rfl)⟩
  f_is_ring := have ⟨fd, F⟩ := c.def_ 41 (d := dd 63 "is_ring") rfl; ⟨_, fd, F, He.glo_ok X G (c.fact 41 (f := .glo "is_ring") rfl)⟩
  f_shows_by := have ⟨fd, F⟩ := c.def_ 42 (d := dd 64 "shows_by") rfl; ⟨_, fd, F, He.glo_ok X G (c.fact 42 (f := .glo "shows_by") rfl)⟩
  f_shows_heard := have ⟨fd, F⟩ := c.def_ 43 (d := dd 66 "shows_heard") rfl; ⟨_, fd, F, He.glo_ok X G (c.fact 43 (f := .glo "shows_heard") rfl)⟩
  f_least_heard := have ⟨fd, F⟩ := c.def_ 44 (d := dd 67 "least_heard") rfl; ⟨_, fd, F, He.glo_ok X G (c.fact 44 (f := .glo "least_heard") rfl)⟩
  f__law_is_right := have ⟨fd, F⟩ := c.def_ 45 (d := dd 78 "_law_is_right") rfl; ⟨_, fd, F, He.glo_ok X G (c.fact 45 (f := .glo "_law_is_right") rfl)⟩
  f_is_row_of := have ⟨fd, F⟩ := c.def_ 46 (d := dd 15 "is_row_of") rfl; ⟨_, fd, F, He.glo_ok X G (c.fact 46 (f := .glo "is_row_of") rfl)⟩
  f_check_row := have ⟨fd, F⟩ := c.def_ 47 (d := dd 36 "check_row") rfl; ⟨_, fd, F, He.glo_ok X G (c.fact 47 (f := .glo "check_row") rfl)⟩
  f_check_read := have ⟨fd, F⟩ := c.def_ 48 (d := dd 37 "check_read") rfl; ⟨_, fd, F, He.glo_ok X G (c.fact 48 (f := .glo "check_read") rfl)⟩
  f_entries_at := have ⟨fd, F⟩ := c.def_ 49 (d := dd 40 "entries_at") rfl; ⟨_, fd, F, He.glo_ok X G (c.fact 49 (f := .glo "entries_at") rfl)⟩
  f_come_to := have ⟨fd, F⟩ := c.def_ 50 (d := dd 41 "come_to") rfl; ⟨_, fd, F, He.glo_ok X G (c.fact 50 (f := .glo "come_to") rfl)⟩
  f_longest_on := have ⟨fd, F⟩ := c.def_ 51 (d := dd 69 "longest_on") rfl; ⟨_, fd, F, He.glo_ok X G (c.fact 51 (f := .glo "longest_on") rfl)⟩
  f_longest_with := have ⟨fd, F⟩ := c.def_ 52 (d := dd 70 "longest_with") rfl; ⟨_, fd, F, He.glo_ok X G (c.fact 52 (f := .glo "longest_with") rfl)⟩
  f_longest_each := have ⟨fd, F⟩ := c.def_ 53 (d := dd 71 "longest_each") rfl; ⟨_, fd, F, He.glo_ok X G (c.fact 53 (f := .glo "longest_each") rfl)⟩
  f_firsts_of := have ⟨fd, F⟩ := c.def_ 54 (d := dd 72 "firsts_of") rfl; ⟨_, fd, F, He.glo_ok X G (c.fact 54 (f := .glo "firsts_of") rfl)⟩
  f_decided_at := have ⟨fd, F⟩ := c.def_ 55 (d := dd 73 "decided_at") rfl; ⟨_, fd, F, He.glo_ok X G (c.fact 55 (f := .glo "decided_at") rfl)⟩
  f__law_right := have ⟨fd, F⟩ := c.def_ 56 (d := dd 79 "_law_right") rfl; ⟨_, fd, F, He.glo_ok X G (c.fact 56 (f := .glo "_law_right") rfl)⟩
  f_law := have ⟨fd, F⟩ := c.def_ 57 (d := dd 80 "law") rfl; ⟨_, fd, F, He.glo_ok X G (c.fact 57 (f := .glo "law") rfl)⟩
theorem law_has {P : Program} {w : World} {K : PySem.W.Frag} {h : Heap} {mg : Str → Option Value} {f : Addr} (X : K.In h) (G : h.Ns mainGlobals mg) (hfa : mg ("law" : Str) = some (.ref f)) (c : He.SaysD fcs dds K) :
    ∃ fd : FuncData, (∀ (s : Shared) (v : Value), BindsTo s fd ⟨[v], []⟩ [("script", v)]) ∧ ∀ base : Heap, K.In base → base.Ns mainGlobals mg → RunsM P w K mg base 10 f fd ["script"] d_law := by
  have T := fx_of X G c
  obtain ⟨f0, fd0, F0, hm0⟩ := T.f_law
  have ef : f0 = f := by
    have e := hm0.symm.trans hfa
    cases e
    rfl
  subst ef
  have b := FunD.bindsA (ps := ["script"]) F0 fun _ _ _ _ _ _ us hl => match us, hl with | [_], _ => rfl
  refine ⟨fd0, fun s v => b s [v] rfl, fun base _ _ => ?_⟩
  obtain ⟨f1, fd1, F1, hm1, R1⟩ := (ok_all (P := P) (w := w) (base := base) T).ex
  have e1 : f1 = f0 := by
    have e := hm1.symm.trans hm0
    cases e
    rfl
  subst e1
  have e2 : fd1 = fd0 := F1.same F0
  subst e2
  exact R1
end Lw
open PySem PySem.W PyProof.Rows
set_option maxRecDepth 100000 in
set_option maxHeartbeats 0 in
theorem PySem.Challenge.cw_onestrokeatatime_k42_great_strokes_that_holds : PySem.Challenge.rw_onestrokeatatime_k42_great_strokes_that.Holds := by
  w_on; o_law
  refine HandSHeadRun.head_any (r := Lw.Rw) (q := view Lw.Rw.prog [80]) (H := Lw.hook) (ob := Lw.seen) (M := 4000) (loose := Lw.others) (d := HandSHeadRun.topDef Lw.Rw.prog 80) (kwd := []) Lw.seen_eq
    (by kernel_rfl) (fun s => by kernel_rfl) Lw.runs (by kernel_rfl) (by kernel_rfl) (by kernel_rfl) (by rfl) (by first | assumption | decide +kernel) (by decide +kernel) ⟨rfl, rfl, rfl, rfl, rfl, by decide +kernel⟩ ?hw ?hc
  case hw => w_witness2
  case hc =>
    refine Pv.law_end (l := PySem.Challenge.rw_onestrokeatatime_k42_great_strokes_that) (n := 63) (k := 10) (x := "script") (m := Lw.d_law) rfl (by decide) (by kernel_rfl) ⟨rfl, by decide, by decide⟩ ?F Lw.law_true
    intro w mg fa hp Y G m0
    obtain ⟨K, KX, c⟩ := Y
    have m1 : mg ("law" : PySem.Str) = some (.ref fa) := by
      have e : (HandSHeadRun.topDef Lw.Rw.prog 80).name = ("law" : PySem.Str) := by kernel_rfl
      exact e ▸ m0
    obtain ⟨fd, hb, hF⟩ := Lw.law_has (P := (PySem.Challenge.rw_onestrokeatatime_k42_great_strokes_that).prog) (w := w) KX G m1 c
    exact ⟨K, fd, KX, hb, hF⟩

